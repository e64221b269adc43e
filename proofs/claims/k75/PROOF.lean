import PyProof.Rows.All
import HandS.ForMost
import HandS.Wide
import HandS.Gcd
import HandS.Flow
import HandS.TupAny
import HandS.TupMul
import HandS.Style
import HandS.Walk
import HandS.Zip
import KE.GoesNew
import KE.GoesEnum
import KE.GoesZip
import PyProof.EnumMake
import HandS.IsInst
import HandS.SortInts
import HandS.WideBits
import KE.KTupSum
import HandS.SetFor
import HandS.Strs
import PyProof.ReprRoads
import PyProof.ReprLen
import HandS.Words
import HandS.Ends
import PySem.Challenge.RW_fieldslots_k75_whole_pulls_at_all_moment
set_option Elab.async false
set_option linter.all false
set_option maxRecDepth 100000
-- VA
/-! VA: values as trees, slots, the relation between slots and the abstract heap. -/
namespace VL
open PySem PySem.Spec L2

/-- a value as a tree: no addresses -/
inductive D where
  | non | bl (b : Bool) | int (i : Int) | str (x : Str)
  | tup (xs : List D) | lst (xs : List D)
  /-- a list that is never written while the code runs -/
  | fz (xs : List D)
  /-- any other value, as it is -/
  | raw (v : V)

/-- a list of the written part -/
def KL (K : PySem.W.Frag) (a : Addr) (xs : List V) : Prop :=
  ∃ (o : Obj) (its : Array Value) (n : Nat), K.lookup a = some o ∧ o.cls = .type "list" ∧ o.dict = none ∧ o.data = .seq its n ∧ its.size ≤ sizeLine ∧ Vals xs its.toList

mutual
def Rep (K : PySem.W.Frag) (A : Addr → Prop) (H : Hp) : D → V → Prop
  | .non, v => v = .non
  | .bl b, v => v = .bl b
  | .int i, v => v = .int i
  | .str x, v => v = .str x
  | .raw u, v => v = u
  | .tup ds, v => ∃ a vs, v = .ref a ∧ SqT K H a vs ∧ Reps K A H ds vs
  | .lst ds, v => ∃ a vs, v = .ref a ∧ ¬ A a ∧ H a = some (.lst vs) ∧ Reps K A H ds vs
  | .fz ds, v => ∃ a vs, v = .ref a ∧ ((¬ A a ∧ Rd H a (.lst vs)) ∨ KL K a vs) ∧ Reps K A H ds vs
def Reps (K : PySem.W.Frag) (A : Addr → Prop) (H : Hp) : List D → List V → Prop
  | [], vs => vs = []
  | d :: ds, vs => ∃ v r, vs = v :: r ∧ Rep K A H d v ∧ Reps K A H ds r
end

/-- the heap has grown; only what stands at A has changed -/
structure Step (A : Addr → Prop) (H H' : Hp) : Prop where
  keep : ∀ b o, H b = some o → ¬ A b → H' b = some o
  there : ∀ b, H b ≠ none → H' b ≠ none
  tups : ∀ b xs, H b = some (.tup xs) → H' b = some (.tup xs)
  frzs : ∀ b o u, H b = some (.frz o u) → H' b = some (.frz o u)

def NoA : Addr → Prop := fun _ => False
theorem noA {A : Addr → Prop} : ∀ b, NoA b → A b := fun _ z => False.elim z
section
variable {K : PySem.W.Frag} {A A' B : Addr → Prop} {H H' H2 : Hp}
theorem Step.refl : Step A H H := ⟨fun _ _ e _ => e, fun _ e => e, fun _ _ e => e, fun _ _ _ e => e⟩
theorem Step.trans (x : Step A H H') (y : Step B H' H2) (h : ∀ b, H b ≠ none → B b → A b) : Step A H H2 :=
  ⟨fun b o e n => y.keep b o (x.keep b o e n) fun z => n (h b (by rw [e]; exact fun q => nomatch q) z), fun b e => y.there b (x.there b e), fun b xs e => y.tups b xs (x.tups b xs e), fun b o u e => y.frzs b o u (x.frzs b o u e)⟩
theorem Step.mono (x : Step A H H') (h : ∀ b, A b → B b) : Step B H H' := ⟨fun b o e n => x.keep b o e fun z => n (h b z), x.there, x.tups, x.frzs⟩
theorem Step.new {p : Addr} {o : HO} (hp : H p = none) : Step A H (upd H p o) :=
  ⟨fun b u e _ => by rw [upd_ne (ne_of_none e hp)]; exact e, fun b e => by
    unfold upd; split
    · exact fun q => nomatch q
    · exact e, fun b u e => by rw [upd_ne (ne_of_none e hp)]; exact e, fun b u v e => by rw [upd_ne (ne_of_none e hp)]; exact e⟩
theorem Step.wr {p : Addr} {xs ys : List V} (hp : H p = some (.lst xs)) (hA : A p) : Step A H (upd H p (.lst ys)) :=
  ⟨fun b u e n => by rw [upd_ne (fun z => n (by rw [z]; exact hA))]; exact e, fun b e => by
    unfold upd; split
    · exact fun q => nomatch q
    · exact e, fun b u e => by rw [upd_ne (fun z => by rw [z, hp] at e; cases e)]; exact e, fun b u v e => by rw [upd_ne (fun z => by rw [z, hp] at e; cases e)]; exact e⟩
theorem SqT.st {a : Addr} {vs : List V} (x : Step A H H') (h : SqT K H a vs) : SqT K H' a vs := by
  rcases h with (h | ⟨o, h⟩) | h
  · exact .inl (.inl (x.tups _ _ h))
  · exact .inl (.inr ⟨o, x.frzs _ _ _ h⟩)
  · exact .inr h

mutual
theorem Rep.step (x : Step B H H') (hB : ∀ b, B b → A b) : ∀ (d : D) (v : V), Rep K A H d v → Rep K A H' d v
  | .non, _, h => h
  | .bl _, _, h => h
  | .int _, _, h => h
  | .str _, _, h => h
  | .raw _, _, h => h
  | .tup ds, v, h => by
    obtain ⟨a, vs, e, q, r⟩ := h
    exact ⟨a, vs, e, SqT.st x q, Reps.step x hB ds vs r⟩
  | .lst ds, v, h => by
    obtain ⟨a, vs, e, n, q, r⟩ := h
    exact ⟨a, vs, e, n, x.keep a _ q (fun z => n (hB a z)), Reps.step x hB ds vs r⟩
  | .fz ds, v, h => by
    obtain ⟨a, vs, e, q, r⟩ := h
    refine ⟨a, vs, e, ?_, Reps.step x hB ds vs r⟩
    rcases q with ⟨n, q | ⟨o, q⟩⟩ | q
    · exact .inl ⟨n, .inl (x.keep a _ q (fun z => n (hB a z)))⟩
    · exact .inl ⟨n, .inr ⟨o, x.frzs a _ _ q⟩⟩
    · exact .inr q
theorem Reps.step (x : Step B H H') (hB : ∀ b, B b → A b) : ∀ (ds : List D) (vs : List V), Reps K A H ds vs → Reps K A H' ds vs
  | [], _, h => h
  | d :: ds, vs, h => by
    obtain ⟨v, r, e, h1, h2⟩ := h
    exact ⟨v, r, e, Rep.step x hB d v h1, Reps.step x hB ds r h2⟩
end
mutual
theorem Rep.anti (h : ∀ b, A' b → A b) : ∀ (d : D) (v : V), Rep K A H d v → Rep K A' H d v
  | .non, _, q => q
  | .bl _, _, q => q
  | .int _, _, q => q
  | .str _, _, q => q
  | .raw _, _, q => q
  | .tup ds, v, q => by
    obtain ⟨a, vs, e, q, r⟩ := q
    exact ⟨a, vs, e, q, Reps.anti h ds vs r⟩
  | .lst ds, v, q => by
    obtain ⟨a, vs, e, n, q, r⟩ := q
    exact ⟨a, vs, e, fun z => n (h a z), q, Reps.anti h ds vs r⟩
  | .fz ds, v, q => by
    obtain ⟨a, vs, e, q, r⟩ := q
    refine ⟨a, vs, e, ?_, Reps.anti h ds vs r⟩
    rcases q with ⟨n, q⟩ | q
    · exact .inl ⟨fun z => n (h a z), q⟩
    · exact .inr q
theorem Reps.anti (h : ∀ b, A' b → A b) : ∀ (ds : List D) (vs : List V), Reps K A H ds vs → Reps K A' H ds vs
  | [], _, q => q
  | d :: ds, vs, q => by
    obtain ⟨v, r, e, h1, h2⟩ := q
    exact ⟨v, r, e, Rep.anti h d v h1, Reps.anti h ds r h2⟩
end
theorem Rd.there {a : Addr} {u : HO} (h : Rd H a u) : H a ≠ none := by
  rcases h with h | ⟨o, h⟩ <;> (rw [h]; exact fun q => nomatch q)
mutual
/-- what is not there yet is not met -/
theorem Rep.fresh : ∀ (d : D) (v : V), Rep K A H d v → Rep K (fun b => A b ∨ H b = none) H d v
  | .non, _, q => q
  | .bl _, _, q => q
  | .int _, _, q => q
  | .str _, _, q => q
  | .raw _, _, q => q
  | .tup ds, v, q => by
    obtain ⟨a, vs, e, q, r⟩ := q
    exact ⟨a, vs, e, q, Reps.fresh ds vs r⟩
  | .lst ds, v, q => by
    obtain ⟨a, vs, e, n, q, r⟩ := q
    refine ⟨a, vs, e, fun z => ?_, q, Reps.fresh ds vs r⟩
    rcases z with z | z
    · exact n z
    · rw [z] at q; cases q
  | .fz ds, v, q => by
    obtain ⟨a, vs, e, q, r⟩ := q
    refine ⟨a, vs, e, ?_, Reps.fresh ds vs r⟩
    rcases q with ⟨n, q⟩ | q
    · refine .inl ⟨fun z => ?_, q⟩
      rcases z with z | z
      · exact n z
      · exact Rd.there q z
    · exact .inr q
theorem Reps.fresh : ∀ (ds : List D) (vs : List V), Reps K A H ds vs → Reps K (fun b => A b ∨ H b = none) H ds vs
  | [], _, q => q
  | d :: ds, vs, q => by
    obtain ⟨v, r, e, h1, h2⟩ := q
    exact ⟨v, r, e, Rep.fresh d v h1, Reps.fresh ds r h2⟩
end
theorem Reps.length : ∀ {ds : List D} {vs : List V}, Reps K A H ds vs → ds.length = vs.length
  | [], _, h => by cases h; rfl
  | d :: ds, vs, h => by
    obtain ⟨v, r, e, h1, h2⟩ := h
    subst e
    simp [Reps.length h2]
theorem Reps.get : ∀ {ds : List D} {vs : List V} {i : Nat} {d : D}, Reps K A H ds vs → ds[i]? = some d → ∃ v, vs[i]? = some v ∧ Rep K A H d v
  | [], _, _, _, _, e => by simp at e
  | d :: ds, vs, 0, x, h, e => by
    obtain ⟨v, r, rfl, h1, h2⟩ := h
    simp at e; subst e
    exact ⟨v, rfl, h1⟩
  | d :: ds, vs, i + 1, x, h, e => by
    obtain ⟨v, r, rfl, h1, h2⟩ := h
    simp at e
    obtain ⟨u, e1, q⟩ := Reps.get h2 e
    exact ⟨u, by simpa using e1, q⟩
theorem Reps.append : ∀ {ds es : List D} {vs us : List V}, Reps K A H ds vs → Reps K A H es us → Reps K A H (ds ++ es) (vs ++ us)
  | [], _, _, _, h, g => by cases h; exact g
  | d :: ds, es, vs, us, h, g => by
    obtain ⟨v, r, rfl, h1, h2⟩ := h
    exact ⟨v, r ++ us, rfl, h1, Reps.append h2 g⟩
theorem Reps.one {d : D} {v : V} (h : Rep K A H d v) : Reps K A H [d] [v] := ⟨v, [], rfl, h, rfl⟩
theorem Reps.set : ∀ {ds : List D} {vs : List V} {d : D} {v : V} (i : Nat), Reps K A H ds vs → Rep K A H d v → Reps K A H (ds.set i d) (vs.set i v)
  | [], _, _, _, _, h, _ => by cases h; exact rfl
  | x :: ds, vs, d, v, 0, h, g => by
    obtain ⟨u, r, rfl, h1, h2⟩ := h
    exact ⟨v, r, rfl, g, h2⟩
  | x :: ds, vs, d, v, i + 1, h, g => by
    obtain ⟨u, r, rfl, h1, h2⟩ := h
    exact ⟨u, r.set i v, rfl, h1, Reps.set i h2 g⟩
theorem Reps.take : ∀ {ds : List D} {vs : List V} (i : Nat), Reps K A H ds vs → Reps K A H (ds.take i) (vs.take i)
  | _, _, 0, _ => by simp [Reps]
  | [], _, i + 1, h => by cases h; simp [Reps]
  | d :: ds, vs, i + 1, h => by
    obtain ⟨u, r, rfl, h1, h2⟩ := h
    exact ⟨u, r.take i, rfl, h1, Reps.take i h2⟩
theorem Reps.drop : ∀ {ds : List D} {vs : List V} (i : Nat), Reps K A H ds vs → Reps K A H (ds.drop i) (vs.drop i)
  | _, _, 0, h => by simpa using h
  | [], _, i + 1, h => by cases h; simp [Reps]
  | d :: ds, vs, i + 1, h => by
    obtain ⟨u, r, rfl, h1, h2⟩ := h
    simpa using Reps.drop i h2
theorem Reps.flat (k : Nat) : ∀ {ds : List D} {vs : List V}, Reps K A H ds vs → Reps K A H (List.replicate k ds).flatten (List.replicate k vs).flatten := by
  intro ds vs h
  induction k with
  | zero => simp [Reps]
  | succ k ih => simpa [List.replicate_succ] using Reps.append h ih
theorem Reps.ints : ∀ (ns : List Int), Reps K A H (ns.map D.int) (ns.map V.int)
  | [] => rfl
  | n :: ns => ⟨_, _, rfl, rfl, Reps.ints ns⟩
theorem Reps.ints_of : ∀ {ns : List Int} {vs : List V}, Reps K A H (ns.map D.int) vs → vs = ns.map V.int
  | [], _, h => h
  | n :: ns, vs, h => by
    obtain ⟨u, r, rfl, h1, h2⟩ := h
    cases h1
    rw [Reps.ints_of h2]; rfl
theorem Reps.strs_of : ∀ {ns : List Str} {vs : List V}, Reps K A H (ns.map D.str) vs → vs = ns.map V.str
  | [], _, h => h
  | n :: ns, vs, h => by
    obtain ⟨u, r, rfl, h1, h2⟩ := h
    cases h1
    rw [Reps.strs_of h2]; rfl
theorem Reps.bls_of : ∀ {ns : List Bool} {vs : List V}, Reps K A H (ns.map D.bl) vs → vs = ns.map V.bl
  | [], _, h => h
  | n :: ns, vs, h => by
    obtain ⟨u, r, rfl, h1, h2⟩ := h
    cases h1
    rw [Reps.bls_of h2]; rfl
end

/-- what a slot holds: nothing that is known, a value that others may hold too, a list of this frame's own, a parameter's list that is written -/
inductive Slot where
  | un | sh (d : D) | ac (ds : List D) | io (ds : List D)
def Slot.isA : Slot → Bool
  | .ac _ => true
  | .io _ => true
  | _ => false
abbrev G := List Slot
/-- the addresses of the lists that this frame writes -/
def Acc (Γ : G) (σ : St) (a : Addr) : Prop := ∃ (i : Nat) (s : Slot), Γ[i]? = some s ∧ s.isA = true ∧ σ[i]? = some (some (.ref a))
/-- one run of a def: the heap at its entry, the written parameters (slot, address), what is to be left alone -/
structure Act where
  Hs : Hp
  io : List (Nat × Addr)
  AV : Addr → Prop
  iot : ∀ (i : Nat) a, (i, a) ∈ io → Hs a ≠ none
def AvA (AV : Addr → Prop) (Γ : G) (σ : St) : Addr → Prop := fun a => AV a ∨ Acc Γ σ a

structure Rel (K : PySem.W.Frag) (C : Act) (AV : Addr → Prop) (Γ : G) (σ : St) (H : Hp) : Prop where
  avs : ∀ a, C.AV a → AV a
  avt : ∀ a, AV a → H a ≠ none
  sh : ∀ (i : Nat) d, Γ[i]? = some (.sh d) → ∃ v, σ[i]? = some (some v) ∧ Rep K (AvA AV Γ σ) H d v
  ac : ∀ (i : Nat) ds, Γ[i]? = some (.ac ds) → ∃ a vs, σ[i]? = some (some (.ref a)) ∧ H a = some (.lst vs) ∧ Reps K (AvA AV Γ σ) H ds vs ∧ C.Hs a = none ∧ ¬ AV a
  io : ∀ (i : Nat) ds, Γ[i]? = some (.io ds) → ∃ a vs, (i, a) ∈ C.io ∧ σ[i]? = some (some (.ref a)) ∧ H a = some (.lst vs) ∧ Reps K (AvA AV Γ σ) H ds vs
  ios : ∀ (i : Nat) a, (i, a) ∈ C.io → ∃ ds, Γ[i]? = some (.io ds) ∧ σ[i]? = some (some (.ref a))
  inj : ∀ (i j : Nat) s t a, Γ[i]? = some s → s.isA = true → Γ[j]? = some t → t.isA = true → σ[i]? = some (some (.ref a)) → σ[j]? = some (some (.ref a)) → i = j
  frame : ∀ b o, C.Hs b = some o → (∀ i, (i, b) ∉ C.io) → H b = some o
  there : ∀ b, C.Hs b ≠ none → H b ≠ none
  len : Γ.length = σ.length

section
variable {K : PySem.W.Frag} {C : Act} {AV AV' : Addr → Prop} {Γ Γ' Γ2 : G} {σ : St} {H H' H2 : Hp}
theorem Rel.acc (R : Rel K C AV Γ σ H) {a : Addr} (h : Acc Γ σ a) : ∃ vs, H a = some (.lst vs) := by
  obtain ⟨i, s, e, q, r⟩ := h
  cases s with
  | un => cases q
  | sh d => cases q
  | ac ds =>
    obtain ⟨b, vs, e1, e2, _⟩ := R.ac i ds e
    rw [r] at e1; cases e1
    exact ⟨vs, e2⟩
  | io ds =>
    obtain ⟨b, vs, _, e1, e2, _⟩ := R.io i ds e
    rw [r] at e1; cases e1
    exact ⟨vs, e2⟩
theorem Rel.avaT (R : Rel K C AV Γ σ H) {a : Addr} (h : AvA AV Γ σ a) : H a ≠ none := by
  rcases h with h | h
  · exact R.avt a h
  · obtain ⟨vs, e⟩ := R.acc h
    rw [e]; exact fun q => nomatch q
/-- the heap grows -/
theorem Rel.grow (R : Rel K C AV Γ σ H) (st : Step NoA H H') : Rel K C AV Γ σ H' :=
  ⟨R.avs, fun a h => st.there a (R.avt a h), fun i d e => by
      obtain ⟨v, e1, r⟩ := R.sh i d e
      exact ⟨v, e1, Rep.step st noA d v r⟩,
    fun i ds e => by
      obtain ⟨a, vs, e1, e2, r, q⟩ := R.ac i ds e
      exact ⟨a, vs, e1, st.keep a _ e2 (fun z => z), Reps.step st noA ds vs r, q⟩,
    fun i ds e => by
      obtain ⟨a, vs, e0, e1, e2, r⟩ := R.io i ds e
      exact ⟨a, vs, e0, e1, st.keep a _ e2 (fun z => z), Reps.step st noA ds vs r⟩,
    R.ios, R.inj, fun b o e n => st.keep b o (R.frame b o e n) (fun z => z), fun b e => st.there b (R.there b e), R.len⟩
/-- a new address is left alone too -/
theorem Rel.new {p : Addr} {o : HO} (R : Rel K C AV Γ σ H) (hp : H p = none) : Rel K C (fun b => AV b ∨ b = p) Γ σ (upd H p o) := by
  have R1 := R.grow (Step.new (A := NoA) (o := o) hp)
  have sub : ∀ b, AvA (fun b => AV b ∨ b = p) Γ σ b → AvA AV Γ σ b ∨ H b = none := fun b h => by
    rcases h with (h | h) | h
    · exact .inl (.inl h)
    · subst h; exact .inr hp
    · exact .inl (.inr h)
  have st : Step NoA H (upd H p o) := Step.new hp
  refine ⟨fun a h => .inl (R.avs a h), fun a h => ?_, fun i d e => ?_, fun i ds e => ?_, fun i ds e => ?_, R.ios, R.inj, R1.frame, R1.there, R.len⟩
  · rcases h with h | h
    · exact R1.avt a h
    · subst h; rw [upd_same]; exact fun q => nomatch q
  · obtain ⟨v, e1, r⟩ := R.sh i d e
    exact ⟨v, e1, Rep.step st noA d v (Rep.anti sub d v (Rep.fresh d v r))⟩
  · obtain ⟨a, vs, e1, e2, r, q1, q2⟩ := R.ac i ds e
    refine ⟨a, vs, e1, st.keep a _ e2 (fun z => z), Reps.step st noA ds vs (Reps.anti sub ds vs (Reps.fresh ds vs r)), q1, fun z => z.elim q2 fun z => ?_⟩
    subst z; rw [hp] at e2; cases e2
  · obtain ⟨a, vs, e0, e1, e2, r⟩ := R.io i ds e
    exact ⟨a, vs, e0, e1, st.keep a _ e2 (fun z => z), Reps.step st noA ds vs (Reps.anti sub ds vs (Reps.fresh ds vs r))⟩
/-- less is left alone -/
theorem Rel.less (R : Rel K C AV' Γ σ H) (h : ∀ a, AV a → AV' a) (hC : ∀ a, C.AV a → AV a) : Rel K C AV Γ σ H := by
  have sub : ∀ b, AvA AV Γ σ b → AvA AV' Γ σ b := fun b z => z.elim (fun z => .inl (h b z)) .inr
  refine ⟨hC, fun a z => R.avt a (h a z), fun i d e => ?_, fun i ds e => ?_, fun i ds e => ?_, R.ios, R.inj, R.frame, R.there, R.len⟩
  · obtain ⟨v, e1, r⟩ := R.sh i d e
    exact ⟨v, e1, Rep.anti sub d v r⟩
  · obtain ⟨a, vs, e1, e2, r, q1, q2⟩ := R.ac i ds e
    exact ⟨a, vs, e1, e2, Reps.anti sub ds vs r, q1, fun z => q2 (h a z)⟩
  · obtain ⟨a, vs, e0, e1, e2, r⟩ := R.io i ds e
    exact ⟨a, vs, e0, e1, e2, Reps.anti sub ds vs r⟩

/-! ### the ends of an expression -/
def Res (K : PySem.W.Frag) (C : Act) (AV : Addr → Prop) (σ : St) (H : Hp) (Γ' : G) (H' : Hp) (d : D) (v : V) : Bool → Prop
  | false => Rel K C AV Γ' σ H' ∧ Rep K (AvA AV Γ' σ) H' d v
  | true => ∃ a vs ds, v = .ref a ∧ d = .lst ds ∧ H a = none ∧ Rel K C (fun b => AV b ∨ b = a) Γ' σ H' ∧ H' a = some (.lst vs) ∧ Reps K (AvA (fun b => AV b ∨ b = a) Γ' σ) H' ds vs
structure PostE (K : PySem.W.Frag) (C : Act) (AV : Addr → Prop) (Γ : G) (σ : St) (H : Hp) (Γ' : G) (H' : Hp) (d : D) (v : V) (fl : Bool) : Prop where
  step : Step (Acc Γ σ) H H'
  shr : ∀ (i : Nat) s, Γ'[i]? = some s → s.isA = true → ∃ s0, Γ[i]? = some s0 ∧ s0.isA = true
  res : Res K C AV σ H Γ' H' d v fl
structure PostT (K : PySem.W.Frag) (C : Act) (AV : Addr → Prop) (Γ : G) (σ : St) (H : Hp) (Γ' : G) (H' : Hp) : Prop where
  step : Step (Acc Γ σ) H H'
  shr : ∀ (i : Nat) s, Γ'[i]? = some s → s.isA = true → ∃ s0, Γ[i]? = some s0 ∧ s0.isA = true
  rel : Rel K C AV Γ' σ H'
theorem acc_sub (shr : ∀ (i : Nat) s, Γ'[i]? = some s → s.isA = true → ∃ s0, Γ[i]? = some s0 ∧ s0.isA = true) {a : Addr} (h : Acc Γ' σ a) : Acc Γ σ a := by
  obtain ⟨i, s, e, q, r⟩ := h
  obtain ⟨s0, e0, q0⟩ := shr i s e q
  exact ⟨i, s0, e0, q0, r⟩
theorem ava_sub (shr : ∀ (i : Nat) s, Γ'[i]? = some s → s.isA = true → ∃ s0, Γ[i]? = some s0 ∧ s0.isA = true) {a : Addr} (h : AvA AV Γ' σ a) : AvA AV Γ σ a := h.elim .inl fun z => .inr (acc_sub shr z)
/-- a new list may be shared -/
theorem PostE.rel {d : D} {v : V} {fl : Bool} (R : Rel K C AV Γ σ H) (p : PostE K C AV Γ σ H Γ' H' d v fl) : Rel K C AV Γ' σ H' ∧ Rep K (AvA AV Γ' σ) H' d v := by
  cases fl with
  | false => exact p.res
  | true =>
    obtain ⟨a, vs, ds, rfl, rfl, n, R1, e, r⟩ := p.res
    refine ⟨R1.less (fun _ z => .inl z) R.avs, a, vs, rfl, fun z => ?_, e, Reps.anti (fun b z => z.elim (fun z => .inl (.inl z)) .inr) ds vs r⟩
    have := R.avaT (ava_sub p.shr z)
    exact this n
theorem PostE.weak {d : D} {v : V} {fl : Bool} (R : Rel K C AV Γ σ H) (p : PostE K C AV Γ σ H Γ' H' d v fl) : PostE K C AV Γ σ H Γ' H' d v false := ⟨p.step, p.shr, p.rel R⟩
theorem PostE.t {d : D} {v : V} {fl : Bool} (R : Rel K C AV Γ σ H) (p : PostE K C AV Γ σ H Γ' H' d v fl) : PostT K C AV Γ σ H Γ' H' := ⟨p.step, p.shr, (p.rel R).1⟩
theorem shr_refl : ∀ (i : Nat) s, Γ[i]? = some s → s.isA = true → ∃ s0, Γ[i]? = some s0 ∧ s0.isA = true := fun _ s e q => ⟨s, e, q⟩
theorem PostT.refl (R : Rel K C AV Γ σ H) : PostT K C AV Γ σ H Γ H := ⟨Step.refl, shr_refl, R⟩
theorem PostT.e (p : PostT K C AV Γ σ H Γ' H') {d : D} {v : V} (r : Rep K (AvA AV Γ' σ) H' d v) : PostE K C AV Γ σ H Γ' H' d v false := ⟨p.step, p.shr, p.rel, r⟩
theorem PostT.trans (p : PostT K C AV Γ σ H Γ' H') (q : PostT K C AV Γ' σ H' Γ2 H2) : PostT K C AV Γ σ H Γ2 H2 :=
  ⟨p.step.trans q.step fun b _ z => acc_sub p.shr z, fun i s e z => by
    obtain ⟨s0, e0, z0⟩ := q.shr i s e z
    exact p.shr i s0 e0 z0, q.rel⟩
/-- what was known ahead of a step -/
theorem PostT.rep (p : PostT K C AV Γ σ H Γ' H') {d : D} {v : V} (r : Rep K (AvA AV Γ σ) H d v) : Rep K (AvA AV Γ' σ) H' d v :=
  Rep.anti (fun _ z => ava_sub p.shr z) d v (Rep.step p.step (fun _ z => .inr z) d v r)
theorem PostT.reps (p : PostT K C AV Γ σ H Γ' H') {d : List D} {v : List V} (r : Reps K (AvA AV Γ σ) H d v) : Reps K (AvA AV Γ' σ) H' d v :=
  Reps.anti (fun _ z => ava_sub p.shr z) d v (Reps.step p.step (fun _ z => .inr z) d v r)
theorem PostT.post {d : D} {v : V} {fl : Bool} (p : PostT K C AV Γ σ H Γ' H') (q : PostE K C AV Γ' σ H' Γ2 H2 d v fl) : PostE K C AV Γ σ H Γ2 H2 d v fl := by
  have t := p.trans (q.t p.rel)
  refine ⟨t.step, t.shr, ?_⟩
  cases fl with
  | false => exact q.res
  | true =>
    obtain ⟨a, vs, ds, e1, e2, n, r⟩ := q.res
    refine ⟨a, vs, ds, e1, e2, ?_, r⟩
    cases z : H a with
    | none => rfl
    | some o => exact absurd n (p.step.there a (by rw [z]; exact fun q => nomatch q))
/-- a new list -/
theorem post_lst {p : Addr} {ds : List D} {vs : List V} (R : Rel K C AV Γ σ H) (hp : H p = none) (r : Reps K (AvA AV Γ σ) H ds vs) : PostE K C AV Γ σ H Γ (upd H p (.lst vs)) (.lst ds) (.ref p) true := by
  refine ⟨Step.new hp, shr_refl, p, vs, ds, rfl, rfl, hp, R.new hp, upd_same, ?_⟩
  have sub : ∀ b, AvA (fun b => AV b ∨ b = p) Γ σ b → AvA AV Γ σ b ∨ H b = none := fun b h => by
    rcases h with (h | h) | h
    · exact .inl (.inl h)
    · subst h; exact .inr hp
    · exact .inl (.inr h)
  exact Reps.step (Step.new (A := NoA) hp) noA ds vs (Reps.anti sub ds vs (Reps.fresh ds vs r))
/-- a new tuple -/
theorem post_tup {p : Addr} {ds : List D} {vs : List V} (R : Rel K C AV Γ σ H) (hp : H p = none) (r : Reps K (AvA AV Γ σ) H ds vs) : PostE K C AV Γ σ H Γ (upd H p (.tup vs)) (.tup ds) (.ref p) false := by
  have st : Step NoA H (upd H p (.tup vs)) := Step.new hp
  exact ⟨Step.new hp, shr_refl, R.grow st, p, vs, rfl, .inl (.inl upd_same), Reps.step st noA ds vs r⟩
/-- a value without address -/
theorem post_val {d : D} {v : V} (R : Rel K C AV Γ σ H) (r : Rep K (AvA AV Γ σ) H d v) : PostE K C AV Γ σ H Γ H d v false := ⟨Step.refl, shr_refl, R, r⟩
end
end VL

-- VB
/-! VB: expressions over trees: operands, operators. -/
namespace VL
open PySem PySem.Spec L2

/-! ### slots -/
def gAt : G → Nat → Slot
  | [], _ => .un
  | s :: _, 0 => s
  | _ :: Γ, n + 1 => gAt Γ n
def gSet : G → Nat → Slot → G
  | [], _, _ => []
  | _ :: Γ, 0, s => s :: Γ
  | x :: Γ, n + 1, s => x :: gSet Γ n s
theorem gAt_some : ∀ {Γ : G} {i : Nat} {s : Slot}, gAt Γ i = s → s ≠ .un → Γ[i]? = some s
  | [], _, _, e, h => absurd e.symm h
  | x :: Γ, 0, s, e, h => by simpa [gAt] using e
  | x :: Γ, n + 1, s, e, h => by simpa using gAt_some (Γ := Γ) (i := n) e h
theorem gAt_of {Γ : G} {i : Nat} {s : Slot} (e : Γ[i]? = some s) : gAt Γ i = s := by
  induction Γ generalizing i with
  | nil => simp at e
  | cons x Γ ih =>
    cases i with
    | zero => simpa [gAt] using e
    | succ n => exact ih (by simpa using e)
theorem gSet_eq : ∀ (Γ : G) (i : Nat) (s : Slot), gSet Γ i s = Γ.set i s
  | [], _, _ => rfl
  | x :: Γ, 0, s => rfl
  | x :: Γ, n + 1, s => by simp [gSet, gSet_eq Γ n s]
theorem getSet {α : Type} {l : List α} {i j : Nat} {s t : α} (e : (l.set i s)[j]? = some t) : (i = j ∧ t = s ∧ i < l.length) ∨ (i ≠ j ∧ l[j]? = some t) := by
  by_cases h : i = j
  · subst h
    by_cases hl : i < l.length
    · rw [List.getElem?_set_self hl] at e
      cases e
      exact .inl ⟨rfl, rfl, hl⟩
    · rw [List.getElem?_eq_none (by simpa using hl)] at e
      cases e
  · rw [List.getElem?_set_ne h] at e
    exact .inr ⟨h, e⟩

section
variable {K : PySem.W.Frag} {C : Act} {AV AV' : Addr → Prop} {Γ Γ' Γ2 : G} {σ : L2.St} {H H' H2 : Hp}
/-- an own list becomes a shared one -/
theorem Rel.demote (R : Rel K C AV Γ σ H) {i : Nat} {ds : List D} (e : Γ[i]? = some (.ac ds)) : PostT K C AV Γ σ H (Γ.set i (.sh (.lst ds))) H ∧
    ∃ v, σ[i]? = some (some v) ∧ Rep K (AvA AV (Γ.set i (.sh (.lst ds))) σ) H (.lst ds) v := by
  have sub : ∀ b, Acc (Γ.set i (.sh (.lst ds))) σ b → Acc Γ σ b := fun b ⟨j, s, e1, q, r⟩ => by
    rcases getSet e1 with ⟨_, rfl, _⟩ | ⟨_, e2⟩
    · cases q
    · exact ⟨j, s, e2, q, r⟩
  obtain ⟨a, vs, e1, e2, r, q1, q2⟩ := R.ac i ds e
  have sub2 : ∀ b, AvA AV (Γ.set i (.sh (.lst ds))) σ b → AvA AV Γ σ b := fun b h => h.elim .inl fun z => .inr (sub b z)
  have rep : Rep K (AvA AV (Γ.set i (.sh (.lst ds))) σ) H (.lst ds) (.ref a) := by
    refine ⟨a, vs, rfl, fun z => ?_, e2, Reps.anti sub2 ds vs r⟩
    rcases z with z | ⟨j, s, e3, q3, r3⟩
    · exact q2 z
    · rcases getSet e3 with ⟨_, rfl, _⟩ | ⟨n, e4⟩
      · cases q3
      · exact n (R.inj i j _ _ a e rfl e4 q3 e1 r3)
  refine ⟨⟨Step.refl, fun j s e3 q3 => ?_, ?_⟩, .ref a, e1, rep⟩
  · rcases getSet e3 with ⟨_, rfl, _⟩ | ⟨_, e4⟩
    · cases q3
    · exact ⟨s, e4, q3⟩
  · refine ⟨R.avs, R.avt, fun j d e3 => ?_, fun j es e3 => ?_, fun j es e3 => ?_, fun j b hb => ?_, fun j k s t b h1 h2 h3 h4 h5 h6 => ?_, R.frame, R.there, by simpa using R.len⟩
    · rcases getSet e3 with ⟨rfl, e4, _⟩ | ⟨_, e4⟩
      · cases e4; exact ⟨.ref a, e1, rep⟩
      · obtain ⟨v, e5, r5⟩ := R.sh j d e4
        exact ⟨v, e5, Rep.anti sub2 d v r5⟩
    · rcases getSet e3 with ⟨_, e4, _⟩ | ⟨_, e4⟩
      · cases e4
      · obtain ⟨b, us, f1, f2, f3, f4⟩ := R.ac j es e4
        exact ⟨b, us, f1, f2, Reps.anti sub2 es us f3, f4⟩
    · rcases getSet e3 with ⟨_, e4, _⟩ | ⟨_, e4⟩
      · cases e4
      · obtain ⟨b, us, f0, f1, f2, f3⟩ := R.io j es e4
        exact ⟨b, us, f0, f1, f2, Reps.anti sub2 es us f3⟩
    · obtain ⟨es, f1, f2⟩ := R.ios j b hb
      refine ⟨es, ?_, f2⟩
      by_cases hij : i = j
      · subst hij; rw [e] at f1; cases f1
      · rw [List.getElem?_set_ne hij]; exact f1
    · rcases getSet h1 with ⟨_, rfl, _⟩ | ⟨_, g1⟩
      · cases h2
      · rcases getSet h3 with ⟨_, rfl, _⟩ | ⟨_, g3⟩
        · cases h4
        · exact R.inj j k s t b g1 h2 g3 h4 h5 h6

/-! ### lifts -/
abbrev WE := G → (D → Bool → G → Prop) → Prop
abbrev WT := G → (Bool → G → Prop) → Prop
/-- an operand: a value, or what stands in a slot when the operation is done -/
inductive Arg where
  | v (d : D) | s (i : Nat)
abbrev WO := G → (Arg → G → Prop) → Prop
abbrev WA := G → (List Arg → G → Prop) → Prop
def ArgRep (K : PySem.W.Frag) (A : Addr → Prop) (Γ : G) (σ : L2.St) (H : Hp) : Arg → V → Prop
  | .v d, v => Rep K A H d v
  | .s i, v => σ[i]? = some (some v)
def ArgReps (K : PySem.W.Frag) (A : Addr → Prop) (Γ : G) (σ : L2.St) (H : Hp) : List Arg → List V → Prop
  | [], vs => vs = []
  | a :: as, vs => ∃ v r, vs = v :: r ∧ ArgRep K A Γ σ H a v ∧ ArgReps K A Γ σ H as r

def lf (K : PySem.W.Frag) (C : Act) (w : WE) : TE := fun σ H Q => ∃ Γ AV Qv, Rel K C AV Γ σ H ∧ w Γ Qv ∧ ∀ d fl Γ' v H', Qv d fl Γ' → PostE K C AV Γ σ H Γ' H' d v fl → Q v H'
def lt (K : PySem.W.Frag) (C : Act) (w : WT) : TT := fun σ H Q => ∃ Γ AV Qv, Rel K C AV Γ σ H ∧ w Γ Qv ∧ ∀ b Γ' H', Qv b Γ' → PostT K C AV Γ σ H Γ' H' → Q b H'
def lo (K : PySem.W.Frag) (C : Act) (w : WO) : TE := fun σ H Q => ∃ Γ AV Qv, Rel K C AV Γ σ H ∧ w Γ Qv ∧ ∀ a Γ' v H', Qv a Γ' → PostT K C AV Γ σ H Γ' H' → ArgRep K (AvA AV Γ' σ) Γ' σ H' a v → Q v H'
def la (K : PySem.W.Frag) (C : Act) (w : WA) : TA := fun σ H Q => ∃ Γ AV Qv, Rel K C AV Γ σ H ∧ w Γ Qv ∧ ∀ as Γ' vs H', Qv as Γ' → PostT K C AV Γ σ H Γ' H' → ArgReps K (AvA AV Γ' σ) Γ' σ H' as vs → Q vs H'
end
def VE (X : Cx) (C : Act) (e : Expr) (w : WE) : Prop := PE X e (lf X.K C w)
def VT (X : Cx) (C : Act) (e : Expr) (w : WT) : Prop := PT X e (lt X.K C w)
def VO (X : Cx) (C : Act) (e : Expr) (w : WO) : Prop := PE X e (lo X.K C w)
def VA (X : Cx) (C : Act) (es : List Expr) (w : WA) : Prop := PA X es (la X.K C w)
theorem PE.imp {X : Cx} {e : Expr} {t t' : TE} (h : PE X e t) (f : ∀ σ H Q, t' σ H Q → t σ H Q) : PE X e t' := ⟨fun pins s σ H Q I q => h.run pins s σ H Q I (f σ H Q q)⟩
theorem PT.imp {X : Cx} {e : Expr} {t t' : TT} (h : PT X e t) (f : ∀ σ H Q, t' σ H Q → t σ H Q) : PT X e t' := ⟨fun pins s σ H Q I q => h.run pins s σ H Q I (f σ H Q q)⟩
theorem PA.imp {X : Cx} {e : List Expr} {t t' : TA} (h : PA X e t) (f : ∀ σ H Q, t' σ H Q → t σ H Q) : PA X e t' := ⟨fun pos pins s σ H Q I q => h.run pos pins s σ H Q I (f σ H Q q)⟩

section
variable {K : PySem.W.Frag} {C : Act} {AV AV' : Addr → Prop} {Γ Γ' Γ2 : G} {σ : L2.St} {H H' H2 : Hp}
theorem PostT.arg (p : PostT K C AV Γ σ H Γ' H') {a : Arg} {v : V} (r : ArgRep K (AvA AV Γ σ) Γ σ H a v) : ArgRep K (AvA AV Γ' σ) Γ' σ H' a v := by
  cases a with
  | v d => exact p.rep r
  | s i => exact r
theorem PostT.args (p : PostT K C AV Γ σ H Γ' H') : ∀ {as : List Arg} {vs : List V}, ArgReps K (AvA AV Γ σ) Γ σ H as vs → ArgReps K (AvA AV Γ' σ) Γ' σ H' as vs
  | [], _, h => h
  | a :: as, vs, h => by
    obtain ⟨v, r, e, h1, h2⟩ := h
    exact ⟨v, r, e, p.arg h1, p.args h2⟩

/-! ### what an operand is worth where the operation is done -/
def slD : Slot → Option D
  | .un => none
  | .sh d => some d
  | .ac ds => some (.lst ds)
  | .io ds => some (.lst ds)
def argD (Γ : G) : Arg → Option D
  | .v d => some d
  | .s i => slD (gAt Γ i)
/-- as Rep, but a list itself may be one that is written -/
def RepT (K : PySem.W.Frag) (A : Addr → Prop) (H : Hp) : D → V → Prop
  | .lst ds, v => ∃ a vs, v = .ref a ∧ H a = some (.lst vs) ∧ Reps K A H ds vs
  | d, v => Rep K A H d v
theorem Rep.t {A : Addr → Prop} {d : D} {v : V} (r : Rep K A H d v) : RepT K A H d v := by
  cases d with
  | lst ds =>
    obtain ⟨a, vs, e, _, q, r⟩ := r
    exact ⟨a, vs, e, q, r⟩
  | non => exact r
  | bl b => exact r
  | int i => exact r
  | str x => exact r
  | raw u => exact r
  | tup ds => exact r
  | fz ds => exact r
theorem Rel.argT (R : Rel K C AV Γ σ H) {a : Arg} {v : V} {d : D} (r : ArgRep K (AvA AV Γ σ) Γ σ H a v) (e : argD Γ a = some d) : RepT K (AvA AV Γ σ) H d v := by
  cases a with
  | v d' =>
    cases e
    exact Rep.t r
  | s i =>
    have e : slD (gAt Γ i) = some d := e
    have r : σ[i]? = some (some v) := r
    cases z : gAt Γ i with
    | un => rw [z] at e; cases e
    | sh d' =>
      rw [z] at e; cases e
      obtain ⟨u, e1, q⟩ := R.sh i d (gAt_some z (fun q => nomatch q))
      rw [r] at e1; cases e1
      exact Rep.t q
    | ac ds =>
      rw [z] at e; cases e
      obtain ⟨a, vs, e1, e2, q, _⟩ := R.ac i ds (gAt_some z (fun q => nomatch q))
      rw [r] at e1; cases e1
      exact ⟨a, vs, rfl, e2, q⟩
    | io ds =>
      rw [z] at e; cases e
      obtain ⟨a, vs, _, e1, e2, q⟩ := R.io i ds (gAt_some z (fun q => nomatch q))
      rw [r] at e1; cases e1
      exact ⟨a, vs, rfl, e2, q⟩
end

section
variable {X : Cx} {C : Act} {e a b : Expr} {es : List Expr} {pos : Pos}
/-! ### names, constants -/
def wVar (i : Nat) : WE := fun Γ Q => match gAt Γ i with
  | .sh d => Q d false Γ
  | .ac ds => Q (.lst ds) false (gSet Γ i (.sh (.lst ds)))
  | _ => False
def oVar (i : Nat) : WO := fun Γ Q => match gAt Γ i with
  | .un => False
  | _ => Q (.s i) Γ
theorem ve_var (i : Nat) {x : Str} {pos : Pos} (hN : X.N[i]? = some x := by rfl) (hv : Vis X.env.scope x := by first | exact Or.inl rfl | exact Or.inr (Or.inl rfl) | exact Or.inr (Or.inr rfl)) (hd : (x == ("__debug__" : Str)) = false := by decide)
    (hcd : (x == ("__classdict__" : Str)) = false := by decide) : VE X C (.Name x pos) (wVar i) := by
  refine PE.imp (pe_var hN hv hd hcd) fun σ H Q ⟨Γ, AV, Qv, R, h, k⟩ => ?_
  have h : (match gAt Γ i with
  | .sh d => Qv d false Γ
  | .ac ds => Qv (.lst ds) false (gSet Γ i (.sh (.lst ds)))
  | _ => False) := h
  cases z : gAt Γ i with
  | un => rw [z] at h; exact h.elim
  | io ds => rw [z] at h; exact h.elim
  | sh d =>
    rw [z] at h
    obtain ⟨u, e1, q⟩ := R.sh i d (gAt_some z (fun q => nomatch q))
    exact ⟨u, e1, k _ _ _ _ _ h (post_val R q)⟩
  | ac ds =>
    rw [z] at h
    obtain ⟨p, v, e1, r⟩ := R.demote (gAt_some z (fun q => nomatch q))
    refine ⟨v, e1, k _ _ _ _ _ h ?_⟩
    rw [gSet_eq]
    exact p.e r
theorem vo_var (i : Nat) {x : Str} {pos : Pos} (hN : X.N[i]? = some x := by rfl) (hv : Vis X.env.scope x := by first | exact Or.inl rfl | exact Or.inr (Or.inl rfl) | exact Or.inr (Or.inr rfl)) (hd : (x == ("__debug__" : Str)) = false := by decide)
    (hcd : (x == ("__classdict__" : Str)) = false := by decide) : VO X C (.Name x pos) (oVar i) := by
  refine PE.imp (pe_var hN hv hd hcd) fun σ H Q ⟨Γ, AV, Qv, R, h, k⟩ => ?_
  have h : (match gAt Γ i with
  | .un => False
  | _ => Qv (.s i) Γ) := h
  have fin : Qv (.s i) Γ → (∃ v, σ[i]? = some (some v)) → tVar i σ H Q := fun q ⟨v, e⟩ => ⟨v, e, k _ _ _ _ q (PostT.refl R) e⟩
  cases z : gAt Γ i with
  | un => rw [z] at h; exact h.elim
  | io ds =>
    rw [z] at h
    obtain ⟨a, vs, _, e1, _⟩ := R.io i ds (gAt_some z (fun q => nomatch q))
    exact fin h ⟨_, e1⟩
  | sh d =>
    rw [z] at h
    obtain ⟨u, e1, q⟩ := R.sh i d (gAt_some z (fun q => nomatch q))
    exact fin h ⟨_, e1⟩
  | ac ds =>
    rw [z] at h
    obtain ⟨a, vs, e1, _⟩ := R.ac i ds (gAt_some z (fun q => nomatch q))
    exact fin h ⟨_, e1⟩
def wC (d : D) : WE := fun Γ Q => Q d false Γ
def flatD : D → Option V
  | .non => some .non
  | .bl b => some (.bl b)
  | .int i => some (.int i)
  | .str x => some (.str x)
  | .raw v => some v
  | _ => none
theorem flatD_rep {K : PySem.W.Frag} {A : Addr → Prop} {H : Hp} {d : D} {v : V} (h : flatD d = some v) : Rep K A H d v := by
  cases d <;> simp [flatD] at h <;> (subst h; simp [Rep])
theorem ve_const {v : V} {d : D} (h : PE X e (tC v)) (hd : flatD d = some v) : VE X C e (wC d) :=
  PE.imp h fun σ H Q ⟨Γ, AV, Qv, R, h, k⟩ => k _ _ _ _ _ h (post_val R (flatD_rep hd))
theorem ve_int {i j pos} : VE X C (.Constant (.int i) j pos) (wC (.int i)) := ve_const pe_int rfl
theorem ve_bl {b j pos} : VE X C (.Constant (.bool b) j pos) (wC (.bl b)) := ve_const pe_bl rfl
theorem ve_non {j pos} : VE X C (.Constant .none j pos) (wC .non) := ve_const pe_non rfl
theorem ve_str {x j pos} : VE X C (.Constant (.str x) j pos) (wC (.str x)) := ve_const pe_str rfl
/-- a module's name for a flat value -/
theorem ve_glob {x : Str} {d : D} {v : V} {u : Value} (hg : Gl X x) (hm : X.mg x = some u) (hd : flatD d = some v) (r : RelV v u) (hdb : (x == ("__debug__" : Str)) = false := by decide) : VE X C (.Name x pos) (wC d) := ve_const (pe_glob hg hm r hdb) hd

/-! ### operands, arguments -/
def oE (w : WE) : WO := fun Γ Q => w Γ fun d _ Γ' => Q (.v d) Γ'
theorem vo_e {w : WE} (h : VE X C e w) : VO X C e (oE w) :=
  PE.imp h fun σ H Q ⟨Γ, AV, Qv, R, h, k⟩ => ⟨Γ, AV, _, R, h, fun d fl Γ' v H' q p => k _ _ _ _ q (p.t R) (p.rel R).2⟩
def aNil : WA := fun Γ Q => Q [] Γ
def aCons (w : WO) (ws : WA) : WA := fun Γ Q => w Γ fun a Γ1 => ws Γ1 fun as Γ2 => Q (a :: as) Γ2
theorem va_nil : VA X C [] aNil := PA.imp pa_nil fun σ H Q ⟨Γ, AV, Qv, R, h, k⟩ => k _ _ _ _ h (PostT.refl R) rfl
theorem va_cons {w : WO} {ws : WA} (ha : VO X C e w) (hr : VA X C es ws) (hs : starEach (e :: es) X.env = (false, eval e X.env) :: starEach es X.env := by rfl) : VA X C (e :: es) (aCons w ws) :=
  PA.imp (pa_cons ha hr hs) fun σ H Q ⟨Γ, AV, Qv, R, h, k⟩ => ⟨Γ, AV, _, R, h, fun a Γ1 v H1 q p r => ⟨Γ1, AV, _, p.rel, q, fun as Γ2 vs H2 q2 p2 r2 =>
    k _ _ _ _ q2 (p.trans p2) ⟨v, vs, rfl, p2.arg r, r2⟩⟩⟩

/-! ### operators -/
/-- an operation on two trees: its result, whether it is a new list -/
abbrev O2 := D → D → (D → Bool → Prop) → Prop
def opt2 (vo : O2) (Γ : G) (a b : Arg) (Q : D → Bool → Prop) : Prop := match argD Γ a, argD Γ b with
  | some x, some y => vo x y Q
  | _, _ => False
/-- the wish of a value-level operation, over the heap -/
def rV (K : PySem.W.Frag) (vo : O2) : R2 := fun x y H Q => ∃ C AV Γ σ dx dy Qv, Rel K C AV Γ σ H ∧ RepT K (AvA AV Γ σ) H dx x ∧ RepT K (AvA AV Γ σ) H dy y ∧ vo dx dy Qv ∧
  ∀ d fl v H', Qv d fl → PostE K C AV Γ σ H Γ H' d v fl → Q v H'
theorem OpR.imp {f : Value → Value → Sem Value} {r r' : R2} (h : OpR X f r) (k : ∀ x y H Q, r' x y H Q → r x y H Q) : OpR X f r' := fun pins s σ H x y v u Q I rx ry q => h pins s σ H x y v u Q I rx ry (k x y H Q q)
def w2 (vo : O2) (wa wb : WO) : WE := fun Γ Q => wa Γ fun a Γ1 => wb Γ1 fun b Γ2 => opt2 vo Γ2 a b fun d fl => Q d fl Γ2
theorem lo2 {K : PySem.W.Frag} {vo : O2} {wa wb : WO} (σ : L2.St) (H : Hp) (Q : VK) (h : lf K C (w2 vo wa wb) σ H Q) : tOp (rV K vo) (lo K C wa) (lo K C wb) σ H Q := by
  obtain ⟨Γ, AV, Qv, R, h, k⟩ := h
  refine ⟨Γ, AV, _, R, h, fun a Γ1 v H1 q p r => ⟨Γ1, AV, _, p.rel, q, fun b Γ2 u H2 q2 p2 r2 => ?_⟩⟩
  have q2 : (match argD Γ2 a, argD Γ2 b with
    | some x, some y => vo x y fun d fl => Qv d fl Γ2
    | _, _ => False) := q2
  cases za : argD Γ2 a with
  | none => rw [za] at q2; exact q2.elim
  | some x =>
    cases zb : argD Γ2 b with
    | none => rw [za, zb] at q2; exact q2.elim
    | some y =>
      rw [za, zb] at q2
      exact ⟨C, AV, Γ2, σ, x, y, _, p2.rel, p2.rel.argT (p2.arg r) za, p2.rel.argT r2 zb, q2, fun d fl v H' q3 p3 => k _ _ _ _ _ q3 ((p.trans p2).post p3)⟩
theorem ve_op {op : Operator} {vo : O2} {wa wb : WO} (ho : OpR X (binaryOp op) (rV X.K vo)) (ha : VO X C a wa) (hb : VO X C b wb) : VE X C (.BinOp a op b pos) (w2 vo wa wb) := PE.imp (pe_op ho ha hb) lo2
theorem ve_cmp {op : CmpOp} {vo : O2} {wa wb : WO} (ho : OpR X (compareOp op) (rV X.K vo)) (ha : VO X C a wa) (hb : VO X C b wb) (hm : behindInMarks op b = false := by first | exact nomark _ (by decide) (by decide) | rfl) : VE X C (.Compare a [op] [b] pos) (w2 vo wa wb) := PE.imp (pe_cmpR ho ha hb hm) lo2
/-- a value as a test -/
def wTest (w : WE) : WT := fun Γ Q => w Γ fun d _ Γ' => ∃ b, d = .bl b ∧ Q b Γ'
theorem lt_test {K : PySem.W.Frag} {w : WE} (σ : L2.St) (H : Hp) (Q : Bool → Hp → Prop) (h : lt K C (wTest w) σ H Q) : tTest (lf K C w) σ H Q := by
  obtain ⟨Γ, AV, Qv, R, h, k⟩ := h
  refine ⟨Γ, AV, _, R, h, fun d fl Γ' v H' ⟨b, e, q⟩ p => ?_⟩
  subst e
  have r := (p.rel R).2
  exact ⟨b, r, k _ _ _ q (p.t R)⟩
theorem PT.of2 {op : CmpOp} {vo : O2} {wa wb : WO} (h : PT X (.Compare a [op] [b] pos) (tTest (tOp (rV X.K vo) (lo X.K C wa) (lo X.K C wb)))) : VT X C (.Compare a [op] [b] pos) (wTest (w2 vo wa wb)) :=
  PT.imp h fun σ H Q q => lo2 (C := C) (vo := vo) σ H _ (lt_test σ H Q q)
theorem vt_cmp {op : CmpOp} {vo : O2} {wa wb : WO} (ho : OpR X (compareOp op) (rV X.K vo)) (ha : VO X C a wa) (hb : VO X C b wb) (hm : behindInMarks op b = false := by first | exact nomark _ (by decide) (by decide) | rfl) : VT X C (.Compare a [op] [b] pos) (wTest (w2 vo wa wb)) := PT.of2 (pt_cmpR ho ha hb hm)
end
end VL

-- VC
/-! VC: operators over trees, displays, subscripts, truth. -/
namespace VL
open PySem PySem.Spec L2

/-- the longest list that is made -/
def LN : Nat := 1000000
theorem LN_le {n : Nat} (h : n ≤ LN) : n ≤ sizeLine := by rw [sizeLine_eq]; unfold LN at h; omega
theorem LN_lt {n : Nat} (h : n < LN) : n < sizeLine := by rw [sizeLine_eq]; unfold LN at h; omega

/-! ### arithmetic -/
def vAdd : O2
  | .int i, .int j, Q => Q (.int (i + j)) false
  | .lst xs, .lst ys, Q => xs.length + ys.length ≤ LN ∧ Q (.lst (xs ++ ys)) true
  | .tup xs, .tup ys, Q => xs.length + ys.length ≤ LN ∧ Q (.tup (xs ++ ys)) false
  | .str x, .str y, Q => x.length + y.length ≤ LN ∧ Q (.str (x ++ y)) false
  | _, _, _ => False
def vSub : O2
  | .int i, .int j, Q => Q (.int (i - j)) false
  | _, _, _ => False
def vMul : O2
  | .int i, .int j, Q => (CMul i j ∨ CMulW i j) ∧ Q (.int (i * j)) false
  | .lst xs, .int k, Q => (k < 1000000 ∧ -1000000 < k) ∧ xs.length * k.toNat ≤ LN ∧ Q (.lst (List.replicate k.toNat xs).flatten) true
  | .tup xs, .int k, Q => xs ≠ [] ∧ 2 ≤ k ∧ k ≤ 1000 ∧ xs.length ≤ 1000 ∧ Q (.tup (List.replicate k.toNat xs).flatten) false
  | _, _, _ => False
def vDiv : O2
  | .int i, .int j, Q => CDivW i j ∧ Q (.int (i / j)) false
  | _, _, _ => False
def vMod : O2
  | .int i, .int j, Q => 0 < j ∧ Q (.int (i % j)) false
  | _, _, _ => False
def vPow : O2
  | .int i, .int j, Q => CPow i j ∧ Q (.int (i ^ j.toNat)) false
  | _, _, _ => False
def vII (f : Int → Int → D) : O2
  | .int i, .int j, Q => Q (f i j) false
  | _, _, _ => False
abbrev vLt : O2 := vII fun i j => .bl (decide (i < j))
abbrev vLe : O2 := vII fun i j => .bl (decide (i ≤ j))
abbrev vGt : O2 := vII fun i j => .bl (decide (j < i))
abbrev vGe : O2 := vII fun i j => .bl (decide (j ≤ i))

section
variable {X : Cx}
theorem or_add : OpR X (binaryOp .Add) (rV X.K vAdd) := by
  refine OpR.imp ((op_add.or op_cat).or (op_add_str.or op_catA)) fun x y H Q h => ?_
  obtain ⟨C, AV, Γ, σ, dx, dy, Qv, R, rx, ry, h, k⟩ := h
  cases dx <;> cases dy <;> try exact h.elim
  · cases rx; cases ry
    exact .inl (.inl ⟨_, _, rfl, rfl, k _ _ _ _ h (post_val R rfl)⟩)
  · cases rx; cases ry
    exact .inr (.inl ⟨_, _, rfl, rfl, LN_le h.1, k _ _ _ _ h.2 (post_val R rfl)⟩)
  · obtain ⟨a, vs, rfl, q, r⟩ := rx
    obtain ⟨b, us, rfl, q', r'⟩ := ry
    refine .inr (.inr ⟨a, b, vs, us, rfl, rfl, q, q', by rw [← r.length, ← r'.length]; exact LN_le h.1, fun e => ?_, fun _ e => ?_, fun _ _ p hp => ?_⟩)
    · refine k _ _ _ _ h.2 (post_val R ?_)
      have rr := Reps.append r r'
      subst e
      exact ⟨b, us, rfl, q', rr⟩
    · refine k _ _ _ _ h.2 (post_val R ?_)
      have rr := Reps.append r r'
      subst e
      rw [List.append_nil] at rr
      exact ⟨a, vs, rfl, q, rr⟩
    · exact k _ _ _ _ h.2 (post_tup R hp (Reps.append r r'))
  · obtain ⟨a, vs, rfl, q, r⟩ := rx
    obtain ⟨b, us, rfl, q', r'⟩ := ry
    exact .inl (.inr ⟨a, b, vs, us, rfl, rfl, q, q', by rw [← r.length, ← r'.length]; exact LN_le h.1, fun p hp => k _ _ _ _ h.2 (post_lst R hp (Reps.append r r'))⟩)
theorem or_sub : OpR X (binaryOp .Sub) (rV X.K vSub) := by
  refine OpR.imp op_sub fun x y H Q h => ?_
  obtain ⟨C, AV, Γ, σ, dx, dy, Qv, R, rx, ry, h, k⟩ := h
  cases dx <;> cases dy <;> try exact h.elim
  cases rx; cases ry
  exact ⟨_, _, rfl, rfl, k _ _ _ _ h (post_val R rfl)⟩
theorem or_mul : OpR X (binaryOp .Mult) (rV X.K vMul) := by
  refine OpR.imp (((op_mulW.or op_mul).or op_rep).or op_repT) fun x y H Q h => ?_
  obtain ⟨C, AV, Γ, σ, dx, dy, Qv, R, rx, ry, h, k⟩ := h
  cases dx <;> cases dy <;> try exact h.elim
  · cases rx; cases ry
    rcases h.1 with h1 | h1
    · exact .inl (.inl (.inr ⟨_, _, rfl, rfl, h1, k _ _ _ _ h.2 (post_val R rfl)⟩))
    · exact .inl (.inl (.inl ⟨_, _, rfl, rfl, h1, k _ _ _ _ h.2 (post_val R rfl)⟩))
  · obtain ⟨a, vs, rfl, q, r⟩ := rx
    cases ry
    obtain ⟨h0, h1, h2, h3, h⟩ := h
    refine .inr ⟨a, _, vs, rfl, rfl, q, fun e => h0 ?_, h1, h2, by rw [← r.length]; exact h3, fun p hp => k _ _ _ _ h (post_tup R hp (Reps.flat _ r))⟩
    have := r.length
    rw [e] at this
    exact List.eq_nil_of_length_eq_zero this
  · obtain ⟨a, vs, rfl, q, r⟩ := rx
    cases ry
    obtain ⟨⟨h1, h2⟩, h3, h⟩ := h
    exact .inl (.inr ⟨a, _, vs, rfl, rfl, q, by omega, by omega, by rw [← r.length]; exact LN_le h3, fun p hp => k _ _ _ _ h (post_lst R hp (Reps.flat _ r))⟩)
theorem or_div : OpR X (binaryOp .FloorDiv) (rV X.K vDiv) := by
  refine OpR.imp op_fdivW fun x y H Q h => ?_
  obtain ⟨C, AV, Γ, σ, dx, dy, Qv, R, rx, ry, h, k⟩ := h
  cases dx <;> cases dy <;> try exact h.elim
  cases rx; cases ry
  exact ⟨_, _, rfl, rfl, h.1, k _ _ _ _ h.2 (post_val R rfl)⟩
theorem or_mod : OpR X (binaryOp .Mod) (rV X.K vMod) := by
  refine OpR.imp op_mod fun x y H Q h => ?_
  obtain ⟨C, AV, Γ, σ, dx, dy, Qv, R, rx, ry, h, k⟩ := h
  cases dx <;> cases dy <;> try exact h.elim
  cases rx; cases ry
  exact ⟨_, _, rfl, rfl, h.1, k _ _ _ _ h.2 (post_val R rfl)⟩
theorem or_pow : OpR X (binaryOp .Pow) (rV X.K vPow) := by
  refine OpR.imp op_pow fun x y H Q h => ?_
  obtain ⟨C, AV, Γ, σ, dx, dy, Qv, R, rx, ry, h, k⟩ := h
  cases dx <;> cases dy <;> try exact h.elim
  cases rx; cases ry
  exact ⟨_, _, rfl, rfl, h.1, k _ _ _ _ h.2 (post_val R rfl)⟩
theorem or_ii {f : Value → Value → Sem Value} {g : Int → Int → V} {p : Int → Int → D} (h : OpR X f (rI0 g)) (e : ∀ i j, flatD (p i j) = some (g i j)) : OpR X f (rV X.K (vII p)) := by
  refine OpR.imp h fun x y H Q h => ?_
  obtain ⟨C, AV, Γ, σ, dx, dy, Qv, R, rx, ry, h, k⟩ := h
  cases dx <;> cases dy <;> try exact h.elim
  cases rx; cases ry
  exact ⟨_, _, rfl, rfl, k _ _ _ _ h (post_val R (flatD_rep (e _ _)))⟩
theorem or_lt : OpR X (compareOp .Lt) (rV X.K vLt) := or_ii op_lt fun _ _ => rfl
theorem or_le : OpR X (compareOp .LtE) (rV X.K vLe) := or_ii op_le fun _ _ => rfl
theorem or_gt : OpR X (compareOp .Gt) (rV X.K vGt) := or_ii op_gt fun _ _ => rfl
theorem or_ge : OpR X (compareOp .GtE) (rV X.K vGe) := or_ii op_ge fun _ _ => rfl
end

/-! ### == -/
mutual
def toP : D → Option PyData
  | .non => some .none
  | .bl b => some (.bool b)
  | .int i => some (.int i)
  | .str x => some (.str x)
  | .tup ds => (toPs ds).map .tuple
  | .lst ds => (toPs ds).map .list
  | .fz ds => (toPs ds).map .list
  | .raw _ => none
def toPs : List D → Option (List PyData)
  | [] => some []
  | d :: ds => match toP d, toPs ds with
    | some p, some ps => some (p :: ps)
    | _, _ => none
end
section
variable {K : PySem.W.Frag} {A : Addr → Prop} {H : Hp}
theorem fz_sq {a : Addr} {vs : List V} (h : (¬ A a ∧ Rd H a (.lst vs)) ∨ KL K a vs) : SqL K H a vs := h.elim (fun z => .inl z.2) .inr
mutual
theorem Rep.dp : ∀ (d : D) (v : V) (p : PyData), toP d = some p → Rep K A H d v → Dp K H v p
  | .non, v, p, e, r => by cases e; cases r; exact .non
  | .bl b, v, p, e, r => by cases e; cases r; exact .bl b
  | .int i, v, p, e, r => by cases e; cases r; exact .int i
  | .str x, v, p, e, r => by cases e; cases r; exact .str x
  | .raw u, v, p, e, r => by cases e
  | .tup ds, v, p, e, r => by
    obtain ⟨a, vs, rfl, q, r⟩ := r
    have e : (toPs ds).map PyData.tuple = some p := e
    cases z : toPs ds with
    | none => rw [z] at e; cases e
    | some ps => rw [z] at e; cases e; exact .tup q (Reps.dp ds vs ps z r)
  | .lst ds, v, p, e, r => by
    obtain ⟨a, vs, rfl, _, q, r⟩ := r
    have e : (toPs ds).map PyData.list = some p := e
    cases z : toPs ds with
    | none => rw [z] at e; cases e
    | some ps => rw [z] at e; cases e; exact .lst (SqL.of q) (Reps.dp ds vs ps z r)
  | .fz ds, v, p, e, r => by
    obtain ⟨a, vs, rfl, q, r⟩ := r
    have e : (toPs ds).map PyData.list = some p := e
    cases z : toPs ds with
    | none => rw [z] at e; cases e
    | some ps => rw [z] at e; cases e; exact .lst (fz_sq q) (Reps.dp ds vs ps z r)
theorem Reps.dp : ∀ (ds : List D) (vs : List V) (ps : List PyData), toPs ds = some ps → Reps K A H ds vs → DpAll K H vs ps
  | [], vs, ps, e, r => by cases e; cases r; exact .nil
  | d :: ds, vs, ps, e, r => by
    obtain ⟨v, us, rfl, r1, r2⟩ := r
    have e : (match toP d, toPs ds with
    | some p, some ps => some (p :: ps)
    | _, _ => none) = some ps := e
    cases z1 : toP d with
    | none => rw [z1] at e; cases e
    | some p =>
      cases z2 : toPs ds with
      | none => rw [z1, z2] at e; cases e
      | some qs =>
        rw [z1, z2] at e
        cases e
        exact .cons (Rep.dp d v p z1 r1) (Reps.dp ds us qs z2 r2)
end
theorem RepT.dp {d : D} {v : V} {p : PyData} (e : toP d = some p) (r : RepT K A H d v) : Dp K H v p := by
  cases d with
  | lst ds =>
    obtain ⟨a, vs, rfl, q, r⟩ := r
    have e : (toPs ds).map PyData.list = some p := e
    cases z : toPs ds with
    | none => rw [z] at e; cases e
    | some ps => rw [z] at e; cases e; exact .lst (SqL.of q) (Reps.dp ds vs ps z r)
  | non => exact Rep.dp (A := A) _ _ _ e r
  | bl b => exact Rep.dp (A := A) _ _ _ e r
  | int i => exact Rep.dp (A := A) _ _ _ e r
  | str x => exact Rep.dp (A := A) _ _ _ e r
  | raw u => exact Rep.dp (A := A) _ _ _ e r
  | tup ds => exact Rep.dp (A := A) _ _ _ e r
  | fz ds => exact Rep.dp (A := A) _ _ _ e r
end
def okP (d : D) : Bool := match toP d with
  | some p => SeqAt.shaped p
  | none => false
def eqP (d e : D) : Bool := match toP d, toP e with
  | some p, some q => PyData.eqv p q
  | _, _ => false
def vEq : O2
  | .int i, .int j, Q => Q (.bl (decide (i = j))) false
  | .bl i, .bl j, Q => Q (.bl (decide (i = j))) false
  | d, e, Q => okP d = true ∧ okP e = true ∧ Q (.bl (eqP d e)) false
def vNe : O2
  | .int i, .int j, Q => Q (.bl (!decide (i = j))) false
  | .bl i, .bl j, Q => Q (.bl (!decide (i = j))) false
  | d, e, Q => okP d = true ∧ okP e = true ∧ Q (.bl (!eqP d e)) false
theorem vEq_of {d e : D} {Q : D → Bool → Prop} (h : vEq d e Q) : okP d = true ∧ okP e = true ∧ Q (.bl (eqP d e)) false := by
  cases d <;> cases e <;> first
    | exact h
    | exact ⟨rfl, rfl, by simpa [eqP, toP, PyData.eqv, Bool.beq_eq_decide_eq, vEq] using h⟩
theorem vNe_of {d e : D} {Q : D → Bool → Prop} (h : vNe d e Q) : okP d = true ∧ okP e = true ∧ Q (.bl (!eqP d e)) false := by
  cases d <;> cases e <;> first
    | exact h
    | exact ⟨rfl, rfl, by simpa [eqP, toP, PyData.eqv, Bool.beq_eq_decide_eq, vNe] using h⟩
/-- texts alone -/
def vEqS : O2
  | .str i, .str j, Q => Q (.bl (decide (i = j))) false
  | _, _, _ => False
def vNeS : O2
  | .str i, .str j, Q => Q (.bl (!decide (i = j))) false
  | _, _, _ => False
section
variable {X : Cx}
theorem or_eqS : OpR X (compareOp .Eq) (rV X.K vEqS) := by
  refine OpR.imp op_eq fun x y H Q h => ?_
  obtain ⟨C, AV, Γ, σ, dx, dy, Qv, R, rx, ry, h, k⟩ := h
  cases dx <;> cases dy <;> try exact h.elim
  cases rx; cases ry
  exact ⟨rfl, k _ _ _ _ h (post_val R (by simp [Rep]))⟩
theorem or_neS : OpR X (compareOp .NotEq) (rV X.K vNeS) := by
  refine OpR.imp op_ne fun x y H Q h => ?_
  obtain ⟨C, AV, Γ, σ, dx, dy, Qv, R, rx, ry, h, k⟩ := h
  cases dx <;> cases dy <;> try exact h.elim
  cases rx; cases ry
  exact ⟨rfl, k _ _ _ _ h (post_val R (by simp [Rep]))⟩
theorem okP_of {d : D} (h : okP d = true) : ∃ p, toP d = some p ∧ SeqAt.shaped p = true := by
  unfold okP at h
  cases z : toP d with
  | none => rw [z] at h; cases h
  | some p => rw [z] at h; exact ⟨p, rfl, h⟩
theorem or_eq (hu : X.A.units + 64 < cLine) : OpR X (compareOp .Eq) (rV X.K vEq) := by
  refine OpR.imp (op_eqD hu) fun x y H Q h => ?_
  obtain ⟨C, AV, Γ, σ, dx, dy, Qv, R, rx, ry, h, k⟩ := h
  obtain ⟨h1, h2, h⟩ := vEq_of h
  obtain ⟨p, e1, s1⟩ := okP_of h1
  obtain ⟨q, e2, s2⟩ := okP_of h2
  refine ⟨p, q, RepT.dp e1 rx, RepT.dp e2 ry, s1, s2, k _ _ _ _ h (post_val R ?_)⟩
  unfold eqP; rw [e1, e2]; exact rfl
theorem or_ne (hu : X.A.units + 64 < cLine) : OpR X (compareOp .NotEq) (rV X.K vNe) := by
  refine OpR.imp (op_neD hu) fun x y H Q h => ?_
  obtain ⟨C, AV, Γ, σ, dx, dy, Qv, R, rx, ry, h, k⟩ := h
  obtain ⟨h1, h2, h⟩ := vNe_of h
  obtain ⟨p, e1, s1⟩ := okP_of h1
  obtain ⟨q, e2, s2⟩ := okP_of h2
  refine ⟨p, q, RepT.dp e1 rx, RepT.dp e2 ry, s1, s2, k _ _ _ _ h (post_val R ?_)⟩
  unfold eqP; rw [e1, e2]; exact rfl
/-! ### is None -/
def vIsN (neg : Bool) : O2
  | .raw _, .non, _ => False
  | .non, .non, Q => Q (.bl (!neg)) false
  | _, .non, Q => Q (.bl neg) false
  | _, _, _ => False
theorem RepT.nonB {K : PySem.W.Frag} {A : Addr → Prop} {H : Hp} {d : D} {v : V} (r : RepT K A H d v) {neg : Bool} {Q : D → Bool → Prop} (h : vIsN neg d .non Q) : Q (.bl (decide (v = .non) != neg)) false := by
  cases d with
  | raw u => exact h.elim
  | non => cases r; cases neg <;> exact h
  | bl b => cases r; cases neg <;> exact h
  | int b => cases r; cases neg <;> exact h
  | str b => cases r; cases neg <;> exact h
  | tup b => obtain ⟨a, vs, rfl, _⟩ := r; cases neg <;> exact h
  | lst b => obtain ⟨a, vs, rfl, _⟩ := r; cases neg <;> exact h
  | fz b => obtain ⟨a, vs, rfl, _⟩ := r; cases neg <;> exact h
theorem vIsN_non {neg : Bool} {dx dy : D} {Q : D → Bool → Prop} (h : vIsN neg dx dy Q) : dy = .non := by
  cases dx <;> cases dy <;> first | rfl | exact h.elim
theorem or_isN : OpR X (compareOp .Is) (rV X.K (vIsN false)) := by
  refine OpR.imp op_isN fun x y H Q h => ?_
  obtain ⟨C, AV, Γ, σ, dx, dy, Qv, R, rx, ry, h, k⟩ := h
  obtain rfl := vIsN_non h
  cases ry
  refine ⟨rfl, k _ _ _ _ (rx.nonB h) (post_val R ?_)⟩
  show V.bl _ = V.bl _
  cases decide (x = V.non) <;> rfl
theorem or_notN : OpR X (compareOp .IsNot) (rV X.K (vIsN true)) := by
  refine OpR.imp op_notN fun x y H Q h => ?_
  obtain ⟨C, AV, Γ, σ, dx, dy, Qv, R, rx, ry, h, k⟩ := h
  obtain rfl := vIsN_non h
  cases ry
  refine ⟨rfl, k _ _ _ _ (rx.nonB h) (post_val R ?_)⟩
  show V.bl _ = V.bl _
  cases decide (x = V.non) <;> rfl
/-! ### in -/
/-- ints or texts in a list or a tuple of such; a text in a text -/
def vIn (neg : Bool) : O2
  | .int i, .lst ds, Q => ∃ ns : List Int, ds = ns.map D.int ∧ Q (.bl (decide (i ∈ ns) != neg)) false
  | .int i, .tup ds, Q => ∃ ns : List Int, ds = ns.map D.int ∧ Q (.bl (decide (i ∈ ns) != neg)) false
  | .str i, .lst ds, Q => ∃ ns : List Str, ds = ns.map D.str ∧ Q (.bl (decide (i ∈ ns) != neg)) false
  | .str i, .tup ds, Q => ∃ ns : List Str, ds = ns.map D.str ∧ Q (.bl (decide (i ∈ ns) != neg)) false
  | .bl i, .lst ds, Q => ∃ ns : List Bool, ds = ns.map D.bl ∧ Q (.bl (decide (i ∈ ns) != neg)) false
  | _, _, _ => False
theorem inV_int (i : Int) (ns : List Int) : inV (.int i) (ns.map V.int) = decide (i ∈ ns) := by
  unfold inV
  induction ns with
  | nil => rfl
  | cons n ns ih =>
    rw [List.map_cons, List.any_cons, ih]
    by_cases e : i = n
    · subst e; simp [eqV]
    · have e' : ¬ n = i := fun z => e z.symm
      simp [eqV, e, e']
theorem inV_str (i : Str) (ns : List Str) : inV (.str i) (ns.map V.str) = decide (i ∈ ns) := by
  unfold inV
  induction ns with
  | nil => rfl
  | cons n ns ih =>
    rw [List.map_cons, List.any_cons, ih]
    by_cases e : i = n
    · subst e; simp [eqV]
    · have e' : ¬ n = i := fun z => e z.symm
      simp [eqV, e, e']
theorem inV_bl (i : Bool) (ns : List Bool) : inV (.bl i) (ns.map V.bl) = decide (i ∈ ns) := by
  unfold inV
  induction ns with
  | nil => rfl
  | cons n ns ih =>
    rw [List.map_cons, List.any_cons, ih]
    by_cases e : i = n
    · subst e; simp [eqV]
    · have e' : ¬ n = i := fun z => e z.symm
      simp [eqV, e, e']
theorem flat_ints (ns : List Int) : (ns.map V.int).all flatV = true := by simp [flatV, List.all_eq_true]
theorem flat_strs' (ns : List Str) : (ns.map V.str).all flatV = true := by simp [flatV, List.all_eq_true]
theorem flat_bls (ns : List Bool) : (ns.map V.bl).all flatV = true := by simp [flatV, List.all_eq_true]
theorem rIn_of {neg : Bool} {x y : V} {H : Hp} {Q : VK} (h : rV X.K (vIn neg) x y H Q) : rIn X.K neg x y H Q := by
  obtain ⟨C, AV, Γ, σ, dx, dy, Qv, R, rx, ry, h, k⟩ := h
  have fin : ∀ b : Bool, Qv (.bl (b != neg)) false → Q (.bl (if neg then !b else b)) H := fun b q => by
    have e : (b != neg) = (if neg then !b else b) := by cases neg <;> cases b <;> rfl
    rw [← e]
    exact k _ _ _ _ q (post_val R rfl)
  cases dx <;> cases dy <;> try exact h.elim
  · obtain ⟨ns, rfl, h⟩ := h
    obtain ⟨a, vs, rfl, q, r⟩ := ry
    cases rx
    rw [Reps.bls_of r] at q
    exact ⟨a, _, rfl, .inl (SqL.of q), rfl, flat_bls ns, by rw [inV_bl]; exact fin _ h⟩
  · obtain ⟨ns, rfl, h⟩ := h
    obtain ⟨a, vs, rfl, q, r⟩ := ry
    cases rx
    rw [Reps.ints_of r] at q
    exact ⟨a, _, rfl, .inr q, rfl, flat_ints ns, by rw [inV_int]; exact fin _ h⟩
  · obtain ⟨ns, rfl, h⟩ := h
    obtain ⟨a, vs, rfl, q, r⟩ := ry
    cases rx
    rw [Reps.ints_of r] at q
    exact ⟨a, _, rfl, .inl (SqL.of q), rfl, flat_ints ns, by rw [inV_int]; exact fin _ h⟩
  · obtain ⟨ns, rfl, h⟩ := h
    obtain ⟨a, vs, rfl, q, r⟩ := ry
    cases rx
    rw [Reps.strs_of r] at q
    exact ⟨a, _, rfl, .inr q, rfl, flat_strs' ns, by rw [inV_str]; exact fin _ h⟩
  · obtain ⟨ns, rfl, h⟩ := h
    obtain ⟨a, vs, rfl, q, r⟩ := ry
    cases rx
    rw [Reps.strs_of r] at q
    exact ⟨a, _, rfl, .inl (SqL.of q), rfl, flat_strs' ns, by rw [inV_str]; exact fin _ h⟩
theorem or_in : OpR X (compareOp .In) (rV X.K (vIn false)) := OpR.imp op_in_seq fun _ _ _ _ h => rIn_of h
theorem or_notIn : OpR X (compareOp .NotIn) (rV X.K (vIn true)) := OpR.imp op_notIn_seq fun _ _ _ _ h => rIn_of h
end

/-! ### one operand -/
abbrev O1 := D → (D → Bool → Prop) → Prop
def opt1 (vo : O1) (Γ : G) (a : Arg) (Q : D → Bool → Prop) : Prop := match argD Γ a with
  | some x => vo x Q
  | none => False
def w1 (vo : O1) (wa : WO) : WE := fun Γ Q => wa Γ fun a Γ1 => opt1 vo Γ1 a fun d fl => Q d fl Γ1
def r1V (K : PySem.W.Frag) (vo : O1) : V → Hp → VK → Prop := fun x H Q => ∃ C AV Γ σ dx Qv, Rel K C AV Γ σ H ∧ RepT K (AvA AV Γ σ) H dx x ∧ vo dx Qv ∧
  ∀ d fl v H', Qv d fl → PostE K C AV Γ σ H Γ H' d v fl → Q v H'
section
variable {X : Cx} {C : Act} {e a b c : Expr} {es : List Expr} {pos : Pos}
theorem lo1 {K : PySem.W.Frag} {vo : O1} {wa : WO} (σ : L2.St) (H : Hp) (Q : VK) (h : lf K C (w1 vo wa) σ H Q) : lo K C wa σ H fun x H1 => r1V K vo x H1 Q := by
  obtain ⟨Γ, AV, Qv, R, h, k⟩ := h
  refine ⟨Γ, AV, _, R, h, fun a Γ1 v H1 q p r => ?_⟩
  have q : (match argD Γ1 a with
    | some x => vo x fun d fl => Qv d fl Γ1
    | none => False) := q
  cases za : argD Γ1 a with
  | none => rw [za] at q; exact q.elim
  | some x =>
    rw [za] at q
    exact ⟨C, AV, Γ1, σ, x, _, p.rel, p.rel.argT r za, q, fun d fl v H' q3 p3 => k _ _ _ _ _ q3 (p.post p3)⟩
def vNeg : O1
  | .int i, Q => Q (.int (-i)) false
  | _, _ => False
theorem ve_neg {wa : WO} (ha : VO X C a wa) : VE X C (.UnaryOp .USub a pos) (w1 vNeg wa) := by
  refine PE.imp (pe_un un_neg ha) fun σ H Q h => ?_
  obtain ⟨Γ, AV, Qv, R, h, k⟩ := lo1 σ H Q h
  refine ⟨Γ, AV, Qv, R, h, fun a Γ1 v H1 q p r => ?_⟩
  obtain ⟨C, AV, Γ, σ, dx, Qv, R, rx, h, k⟩ := k _ _ _ _ q p r
  cases dx <;> try exact h.elim
  cases rx
  exact ⟨_, rfl, k _ _ _ _ h (post_val R rfl)⟩

/-! ### truth, and, or, not, if -/
def isB : D → (Bool → Prop) → Prop
  | .bl b, k => k b
  | _, _ => False
theorem isB_of {d : D} {k : Bool → Prop} (h : isB d k) : ∃ b, d = .bl b ∧ k b := by
  cases d with
  | bl b => exact ⟨b, rfl, h⟩
  | _ => exact h.elim
/-- a bool value as a test -/
def tV (w : WE) : WT := fun Γ Q => w Γ fun d _ Γ' => isB d fun b => Q b Γ'
theorem lt_tV {K : PySem.W.Frag} {w : WE} (σ : L2.St) (H : Hp) (Q : Bool → Hp → Prop) (h : lt K C (tV w) σ H Q) : lf K C w σ H fun x H1 => ∃ c, x = .bl c ∧ Q c H1 := by
  obtain ⟨Γ, AV, Qv, R, h, k⟩ := h
  refine ⟨Γ, AV, _, R, h, fun d fl Γ' v H' q p => ?_⟩
  obtain ⟨b, e, q⟩ := isB_of q
  subst e
  exact ⟨b, (p.rel R).2, k _ _ _ q (p.t R)⟩
theorem vt_cmp' {op : CmpOp} {vo : O2} {wa wb : WO} (ho : OpR X (compareOp op) (rV X.K vo)) (ha : VO X C a wa) (hb : VO X C b wb) (hm : behindInMarks op b = false := by first | exact nomark _ (by decide) (by decide) | rfl) : VT X C (.Compare a [op] [b] pos) (tV (w2 vo wa wb)) :=
  PT.imp (pt_cmpR ho ha hb hm) fun σ H Q q => lo2 (C := C) (vo := vo) σ H _ (lt_tV σ H Q q)
theorem vt_val {w : WE} (h : VE X C e w) (he : ∀ whole, isTrue e X.env whole = (do let v ← whole; standAt e.pos; holding [v] (truthy v)) := by intro _; rfl) : VT X C e (tV w) :=
  PT.imp (pt_val h he) fun σ H Q q => lt_tV σ H Q q
def tNotW (t : WT) : WT := fun Γ Q => t Γ fun b Γ' => Q (!b) Γ'
theorem vt_not {t : WT} (h : VT X C a t) : VT X C (.UnaryOp .Not a pos) (tNotW t) :=
  PT.imp (pt_not h) fun σ H Q ⟨Γ, AV, Qv, R, h, k⟩ => ⟨Γ, AV, _, R, h, fun b Γ' H' q p => k _ _ _ q p⟩
def tAndW (t u : WT) : WT := fun Γ Q => t Γ fun b Γ' => if b = true then u Γ' Q else Q false Γ'
def tOrW (t u : WT) : WT := fun Γ Q => t Γ fun b Γ' => if b = true then Q true Γ' else u Γ' Q
/-- a test, whatever its whole is -/
def VW (X : Cx) (C : Act) (e : Expr) (w : WT) : Prop := PW X e (lt X.K C w)
theorem VW.vt {t : WT} (h : VW X C e t) : VT X C e t := h.pt
theorem PW.imp {e : Expr} {t t' : TT} (h : PW X e t) (f : ∀ σ H Q, t' σ H Q → t σ H Q) : PW X e t' := ⟨fun whole pins s σ H Q I q => h.run whole pins s σ H Q I (f σ H Q q)⟩
theorem vw_and1 {t : WT} (h : VT X C a t) : VW X C (.BoolOp .And [a] pos) t := pw_and1 h
theorem vw_or1 {t : WT} (h : VT X C a t) : VW X C (.BoolOp .Or [a] pos) t := pw_or1 h
theorem vw_and {t u : WT} (h : VT X C a t) (h2 : VW X C (.BoolOp .And (b :: es) pos) u) : VW X C (.BoolOp .And (a :: b :: es) pos) (tAndW t u) := by
  refine PW.imp (pw_and h h2) fun σ H Q ⟨Γ, AV, Qv, R, h, k⟩ => ⟨Γ, AV, _, R, h, fun c Γ1 H1 q p => ?_⟩
  cases c with
  | false => simp only [Bool.false_eq_true, if_false] at q ⊢; exact k _ _ _ q p
  | true => simp only [if_true] at q ⊢; exact ⟨Γ1, AV, _, p.rel, q, fun d Γ2 H2 q2 p2 => k _ _ _ q2 (p.trans p2)⟩
theorem vw_or {t u : WT} (h : VT X C a t) (h2 : VW X C (.BoolOp .Or (b :: es) pos) u) : VW X C (.BoolOp .Or (a :: b :: es) pos) (tOrW t u) := by
  refine PW.imp (pw_or h h2) fun σ H Q ⟨Γ, AV, Qv, R, h, k⟩ => ⟨Γ, AV, _, R, h, fun c Γ1 H1 q p => ?_⟩
  cases c with
  | true => simp only [if_true] at q ⊢; exact k _ _ _ q p
  | false => simp only [Bool.false_eq_true, if_false] at q ⊢; exact ⟨Γ1, AV, _, p.rel, q, fun d Γ2 H2 q2 p2 => k _ _ _ q2 (p.trans p2)⟩
/-- .. as values: the operands ahead of the last are bools -/
def wAndV (wa wb : WE) : WE := fun Γ Q => wa Γ fun d _ Γ' => isB d fun b => if b = true then wb Γ' (fun d _ Γ2 => Q d false Γ2) else Q (.bl false) false Γ'
def wOrV (wa wb : WE) : WE := fun Γ Q => wa Γ fun d _ Γ' => isB d fun b => if b = true then Q (.bl true) false Γ' else wb Γ' (fun d _ Γ2 => Q d false Γ2)
def wNotV (wa : WE) : WE := fun Γ Q => wa Γ fun d _ Γ' => isB d fun b => Q (.bl (!b)) false Γ'
theorem ve_one {op} {w : WE} (h : VE X C a w) : VE X C (.BoolOp op [a] pos) w := pe_one h
theorem ve_and {wa wb : WE} (ha : VE X C a wa) (hb : VE X C (.BoolOp .And (b :: es) pos) wb) : VE X C (.BoolOp .And (a :: b :: es) pos) (wAndV wa wb) := by
  refine PE.imp (pe_and ha hb) fun σ H Q ⟨Γ, AV, Qv, R, h, k⟩ => ⟨Γ, AV, _, R, h, fun d fl Γ1 v H1 q p => ?_⟩
  obtain ⟨c, e, q⟩ := isB_of q
  subst e
  refine ⟨c, (p.rel R).2, ?_⟩
  cases c with
  | false => simp only [Bool.false_eq_true, if_false] at q ⊢; exact k _ _ _ _ _ q ((p.t R).e rfl)
  | true => simp only [if_true] at q ⊢; exact ⟨Γ1, AV, _, (p.rel R).1, q, fun d fl Γ2 v H2 q2 p2 => k _ _ _ _ _ q2 ((p.t R).post (p2.weak (p.rel R).1))⟩
theorem ve_or {wa wb : WE} (ha : VE X C a wa) (hb : VE X C (.BoolOp .Or (b :: es) pos) wb) : VE X C (.BoolOp .Or (a :: b :: es) pos) (wOrV wa wb) := by
  refine PE.imp (pe_or ha hb) fun σ H Q ⟨Γ, AV, Qv, R, h, k⟩ => ⟨Γ, AV, _, R, h, fun d fl Γ1 v H1 q p => ?_⟩
  obtain ⟨c, e, q⟩ := isB_of q
  subst e
  refine ⟨c, (p.rel R).2, ?_⟩
  cases c with
  | true => simp only [if_true] at q ⊢; exact k _ _ _ _ _ q ((p.t R).e rfl)
  | false => simp only [Bool.false_eq_true, if_false] at q ⊢; exact ⟨Γ1, AV, _, (p.rel R).1, q, fun d fl Γ2 v H2 q2 p2 => k _ _ _ _ _ q2 ((p.t R).post (p2.weak (p.rel R).1))⟩
theorem ve_not {wa : WE} (ha : VE X C a wa) : VE X C (.UnaryOp .Not a pos) (wNotV wa) := by
  refine PE.imp (pe_not ha) fun σ H Q ⟨Γ, AV, Qv, R, h, k⟩ => ⟨Γ, AV, _, R, h, fun d fl Γ1 v H1 q p => ?_⟩
  obtain ⟨c, e, q⟩ := isB_of q
  subst e
  exact ⟨c, (p.rel R).2, k _ _ _ _ _ q ((p.t R).e rfl)⟩
def wIf (t : WT) (wa wb : WE) : WE := fun Γ Q => t Γ fun b Γ' => if b = true then wa Γ' Q else wb Γ' Q
theorem ve_if {t : WT} {wa wb : WE} (hc : VT X C c t) (ha : VE X C a wa) (hb : VE X C b wb) : VE X C (.IfExp c a b pos) (wIf t wa wb) := by
  refine PE.imp (pe_ifExp hc ha hb) fun σ H Q ⟨Γ, AV, Qv, R, h, k⟩ => ⟨Γ, AV, _, R, h, fun d Γ1 H1 q p => ?_⟩
  cases d with
  | true => simp only [if_true] at q ⊢; exact ⟨Γ1, AV, _, p.rel, q, fun d fl Γ2 v H2 q2 p2 => k _ _ _ _ _ q2 (p.post p2)⟩
  | false => simp only [Bool.false_eq_true, if_false] at q ⊢; exact ⟨Γ1, AV, _, p.rel, q, fun d fl Γ2 v H2 q2 p2 => k _ _ _ _ _ q2 (p.post p2)⟩
/-- a < b < c -/
def wChain (vo vo' : O2) (wa wb wc : WO) : WE := fun Γ Q => wa Γ fun a Γ1 => wb Γ1 fun b Γ2 => opt2 vo Γ2 a b fun d _ => isB d fun k =>
  if k = true then wc Γ2 fun c Γ3 => opt2 vo' Γ3 b c fun d fl => Q d fl Γ3 else Q (.bl false) false Γ2
theorem opt2_of {vo : O2} {Γ : G} {a b : Arg} {Q : D → Bool → Prop} (h : opt2 vo Γ a b Q) : ∃ x y, argD Γ a = some x ∧ argD Γ b = some y ∧ vo x y Q := by
  unfold opt2 at h
  cases za : argD Γ a with
  | none => rw [za] at h; exact h.elim
  | some x =>
    cases zb : argD Γ b with
    | none => rw [za, zb] at h; exact h.elim
    | some y => rw [za, zb] at h; exact ⟨x, y, rfl, rfl, h⟩
theorem lo3 {K : PySem.W.Frag} {vo vo' : O2} {wa wb wc : WO} (σ : L2.St) (H : Hp) (Q : VK) (h : lf K C (wChain vo vo' wa wb wc) σ H Q) : tChain (rV K vo) (rV K vo') (lo K C wa) (lo K C wb) (lo K C wc) σ H Q := by
  obtain ⟨Γ, AV, Qv, R, h, k⟩ := h
  refine ⟨Γ, AV, _, R, h, fun a Γ1 v H1 q p r => ⟨Γ1, AV, _, p.rel, q, fun b Γ2 u H2 q2 p2 r2 => ?_⟩⟩
  obtain ⟨x, y, za, zb, q2⟩ := opt2_of q2
  refine ⟨C, AV, Γ2, σ, x, y, _, p2.rel, p2.rel.argT (p2.arg r) za, p2.rel.argT r2 zb, q2, fun d fl z H3 q3 p3 => ?_⟩
  obtain ⟨c, e, q3⟩ := isB_of q3
  subst e
  refine ⟨c, (p3.rel p2.rel).2, ?_⟩
  have t3 := p3.t p2.rel
  cases c with
  | false => simp only [Bool.false_eq_true, if_false] at q3 ⊢; exact k _ _ _ _ _ q3 (((p.trans p2).trans t3).e rfl)
  | true =>
    simp only [if_true] at q3 ⊢
    refine ⟨Γ2, AV, _, t3.rel, q3, fun c Γ3 w H4 q4 p4 r4 => ?_⟩
    obtain ⟨x', y', za', zb', q4⟩ := opt2_of q4
    exact ⟨C, AV, Γ3, σ, x', y', _, p4.rel, p4.rel.argT (p4.arg (t3.arg r2)) za', p4.rel.argT r4 zb', q4, fun d fl v H' q5 p5 => k _ _ _ _ _ q5 ((((p.trans p2).trans t3).trans p4).post p5)⟩
theorem ve_chain {op op' : CmpOp} {vo vo' : O2} {wa wb wc : WO} (ho : OpR X (compareOp op) (rV X.K vo)) (ho' : OpR X (compareOp op') (rV X.K vo')) (ha : VO X C a wa) (hb : VO X C b wb) (hc : VO X C c wc)
    (hm : lastMarks [op, op'] [b, c] = false := by with_unfolding_all rfl) : VE X C (.Compare a [op, op'] [b, c] pos) (wChain vo vo' wa wb wc) := PE.imp (pe_chain ho ho' ha hb hc hm) lo3
theorem vt_chain {op op' : CmpOp} {vo vo' : O2} {wa wb wc : WO} (ho : OpR X (compareOp op) (rV X.K vo)) (ho' : OpR X (compareOp op') (rV X.K vo')) (ha : VO X C a wa) (hb : VO X C b wb) (hc : VO X C c wc)
    (hm : lastMarks [op, op'] [b, c] = false := by with_unfolding_all rfl) : VT X C (.Compare a [op, op'] [b, c] pos) (tV (wChain vo vo' wa wb wc)) :=
  PT.imp (pt_chain ho ho' ha hb hc hm) fun σ H Q q => lo3 (C := C) σ H _ (lt_tV σ H Q q)

/-! ### displays -/
def allV : List Arg → Option (List D)
  | [] => some []
  | .v d :: as => match allV as with
    | some ds => some (d :: ds)
    | none => none
  | .s _ :: _ => none
theorem allV_reps {K : PySem.W.Frag} {A : Addr → Prop} {Γ : G} {σ : L2.St} {H : Hp} : ∀ {as : List Arg} {ds : List D} {vs : List V}, allV as = some ds → ArgReps K A Γ σ H as vs → Reps K A H ds vs
  | [], ds, vs, e, r => by cases e; exact r
  | .v d :: as, ds, vs, e, r => by
    obtain ⟨v, us, rfl, r1, r2⟩ := r
    have e : (match allV as with
    | some ds => some (d :: ds)
    | none => none) = some ds := e
    cases z : allV as with
    | none => rw [z] at e; cases e
    | some es =>
      rw [z] at e
      cases e
      exact ⟨v, us, rfl, r1, allV_reps z r2⟩
  | .s i :: as, ds, vs, e, r => by cases e
def wTup (wa : WA) : WE := fun Γ Q => wa Γ fun as Γ1 => match allV as with
  | some ds => ds.length ≤ LN ∧ Q (.tup ds) false Γ1
  | none => False
def wLst (wa : WA) : WE := fun Γ Q => wa Γ fun as Γ1 => match allV as with
  | some ds => ds.length ≤ LN ∧ Q (.lst ds) true Γ1
  | none => False
theorem ve_tup {wa : WA} {x1} (h : VA X C es wa) : VE X C (.Tuple es x1 pos) (wTup wa) := by
  refine PE.imp (pe_tup h) fun σ H Q ⟨Γ, AV, Qv, R, h, k⟩ => ⟨Γ, AV, _, R, h, fun as Γ1 vs H1 q p r => ?_⟩
  cases z : allV as with
  | none => simp only [z] at q
  | some ds =>
    simp only [z] at q
    have rr := allV_reps z r
    exact ⟨by rw [← rr.length]; exact LN_le q.1, fun l hl => k _ _ _ _ _ q.2 (p.post (post_tup p.rel hl rr))⟩
theorem ve_lst {wa : WA} (h : VA X C es wa) : VE X C (.List es pos) (wLst wa) := by
  refine PE.imp (pe_lst h) fun σ H Q ⟨Γ, AV, Qv, R, h, k⟩ => ⟨Γ, AV, _, R, h, fun as Γ1 vs H1 q p r => ?_⟩
  cases z : allV as with
  | none => simp only [z] at q
  | some ds =>
    simp only [z] at q
    have rr := allV_reps z r
    exact ⟨by rw [← rr.length]; exact LN_le q.1, fun l hl => k _ _ _ _ _ q.2 (p.post (post_lst p.rel hl rr))⟩

/-! ### subscripts -/
def optI (o : Option D) (Q : D → Bool → Prop) : Prop := match o with
  | some d => Q d false
  | none => False
def vIx : O2
  | .lst ds, .int i, Q => optI (atI ds i) Q
  | .tup ds, .int i, Q => optI (atI ds i) Q
  | .fz ds, .int i, Q => optI (atI ds i) Q
  | .str x, .int i, Q => x.length ≤ LN ∧ optI ((atI x.cps.toList i).map fun c => D.str ⟨#[c]⟩) Q
  | _, _, _ => False
theorem Reps.at {K : PySem.W.Frag} {A : Addr → Prop} {H : Hp} {ds : List D} {vs : List V} {i : Int} {d : D} (r : Reps K A H ds vs) (e : atI ds i = some d) : ∃ v, atI vs i = some v ∧ Rep K A H d v := by
  unfold atI at e ⊢
  rw [← r.length]
  cases z : ixN ds.length i with
  | none => rw [z] at e; cases e
  | some j =>
    rw [z] at e
    exact r.get e
theorem optI_of {o : Option D} {Q : D → Bool → Prop} (h : optI o Q) : ∃ d, o = some d ∧ Q d false := by
  cases o with
  | none => exact h.elim
  | some d => exact ⟨d, rfl, h⟩
theorem ir_ix : IxR X (rV X.K vIx) := by
  refine fun value slice pins s σ H x y v u Q I rx ry q => ix_seq value slice pins s σ H x y v u Q I rx ry ?_
  obtain ⟨C, AV, Γ, σ, dx, dy, Qv, R, rx, ry, h, k⟩ := q
  cases dx <;> cases dy <;> try exact h.elim
  · cases rx; cases ry
    obtain ⟨h0, h⟩ := h
    obtain ⟨d, e, h⟩ := optI_of h
    cases z : atI (_ : Str).cps.toList _ with
    | none => rw [z] at e; cases e
    | some c =>
      rw [z] at e
      cases e
      exact .inr (.inr ⟨_, _, c, rfl, rfl, LN_le h0, z, k _ _ _ _ h (post_val R rfl)⟩)
  · obtain ⟨a, vs, rfl, q, r⟩ := rx
    cases ry
    obtain ⟨d, e, h⟩ := optI_of h
    obtain ⟨v, e1, rv⟩ := r.at e
    exact .inr (.inl ⟨a, vs, _, v, rfl, rfl, q, e1, k _ _ _ _ h (post_val R rv)⟩)
  · obtain ⟨a, vs, rfl, q, r⟩ := rx
    cases ry
    obtain ⟨d, e, h⟩ := optI_of h
    obtain ⟨v, e1, rv⟩ := r.at e
    exact .inl ⟨a, vs, _, v, rfl, rfl, SqL.of q, e1, k _ _ _ _ h (post_val R rv)⟩
  · obtain ⟨a, vs, rfl, q, r⟩ := rx
    cases ry
    obtain ⟨d, e, h⟩ := optI_of h
    obtain ⟨v, e1, rv⟩ := r.at e
    exact .inl ⟨a, vs, _, v, rfl, rfl, fz_sq q, e1, k _ _ _ _ h (post_val R rv)⟩
theorem ve_ix {wa wb : WO} (ha : VO X C a wa) (hb : VO X C b wb) (hs : PlainIx b := by intro _ _; rfl) : VE X C (.Subscript a b pos) (w2 vIx wa wb) := PE.imp (pe_ix ir_ix ha hb hs) lo2
end
end VL

-- VD
/-! VD: slices, targets, statements, loops, comprehensions over trees. -/
namespace VL
open PySem PySem.Spec L2

/-! ### slices -/
def cutL {α : Type} (xs : List α) (lo hi : Option Int) : List α := (xs.drop (HT.sIx xs.length 0 lo)).take (HT.sIx xs.length xs.length hi - HT.sIx xs.length 0 lo)
abbrev WP := G → (Option Int → G → Prop) → Prop
def lp (K : PySem.W.Frag) (C : Act) (w : WP) : TO := fun σ H Q => ∃ Γ AV Qv, Rel K C AV Γ σ H ∧ w Γ Qv ∧ ∀ o Γ' H', Qv o Γ' → PostT K C AV Γ σ H Γ' H' → Q o H'
def VP (X : Cx) (C : Act) (e : Option Expr) (w : WP) : Prop := PO X e (lp X.K C w)
theorem PO.imp {X : Cx} {e : Option Expr} {t t' : TO} (h : PO X e t) (f : ∀ σ H Q, t' σ H Q → t σ H Q) : PO X e t' := by
  obtain ⟨run⟩ := h
  exact ⟨fun pins s σ H Q I q => run pins s σ H Q I (f σ H Q q)⟩
section
variable {X : Cx} {C : Act} {e a b c tg iter elt : Expr} {es : List Expr} {st : Stmt} {rest sts : List Stmt} {pos p2 : Pos} {lo' hi' : Option Expr}
def isI : D → (Int → Prop) → Prop
  | .int i, k => k i
  | _, _ => False
theorem isI_of {d : D} {k : Int → Prop} (h : isI d k) : ∃ b, d = .int b ∧ k b := by
  cases d with
  | int b => exact ⟨b, rfl, h⟩
  | _ => exact h.elim
def pNone : WP := fun Γ Q => Q none Γ
def pSome (w : WE) : WP := fun Γ Q => w Γ fun d _ Γ' => isI d fun i => Q (some i) Γ'
theorem vp_none : VP X C none pNone := PO.imp po_none fun σ H Q ⟨Γ, AV, Qv, R, h, k⟩ => k _ _ _ h (PostT.refl R)
theorem vp_some {w : WE} (h : VE X C e w) : VP X C (some e) (pSome w) :=
  PO.imp (po_some h) fun σ H Q ⟨Γ, AV, Qv, R, h, k⟩ => ⟨Γ, AV, _, R, h, fun d fl Γ' v H' q p => by
    obtain ⟨i, e, q⟩ := isI_of q
    subst e
    exact ⟨i, (p.rel R).2, k _ _ _ q (p.t R)⟩⟩
def vSl (lo hi : Option Int) : O1
  | .lst ds, Q => Q (.lst (cutL ds lo hi)) true
  | .fz ds, Q => Q (.lst (cutL ds lo hi)) true
  | .tup ds, Q => Q (.tup (cutL ds lo hi)) false
  | .str x, Q => x.length ≤ LN ∧ Q (.str (cutS x lo hi)) false
  | _, _ => False
theorem Reps.cut {K : PySem.W.Frag} {A : Addr → Prop} {H : Hp} {ds : List D} {vs : List V} (r : Reps K A H ds vs) (lo hi : Option Int) : Reps K A H (cutL ds lo hi) (cutV vs lo hi) := by
  unfold cutL cutV
  rw [r.length]
  exact Reps.take _ (Reps.drop _ r)
def wSl (wa : WO) (wl wh : WP) : WE := fun Γ Q => wa Γ fun a Γ1 => wl Γ1 fun lo Γ2 => wh Γ2 fun hi Γ3 => opt1 (vSl lo hi) Γ3 a fun d fl => Q d fl Γ3
theorem opt1_of {vo : O1} {Γ : G} {a : Arg} {Q : D → Bool → Prop} (h : opt1 vo Γ a Q) : ∃ x, argD Γ a = some x ∧ vo x Q := by
  unfold opt1 at h
  cases za : argD Γ a with
  | none => rw [za] at h; exact h.elim
  | some x => rw [za] at h; exact ⟨x, rfl, h⟩
theorem ve_sl {wa : WO} {wl wh : WP} (ha : VO X C a wa) (hl : VP X C lo' wl) (hh : VP X C hi' wh) : VE X C (.Subscript a (.Slice lo' hi' none p2) pos) (wSl wa wl wh) := by
  refine PE.imp (pe_slice (sl_list.or (sl_tupA.or sl_str)) ha hl hh) fun σ H Q ⟨Γ, AV, Qv, R, h, k⟩ => ⟨Γ, AV, _, R, h, fun a Γ1 v H1 q p r => ⟨Γ1, AV, _, p.rel, q, fun lo Γ2 H2 q2 p2 => ⟨Γ2, AV, _, p2.rel, q2, fun hi Γ3 H3 q3 p3 => ?_⟩⟩⟩
  obtain ⟨x, zx, q3⟩ := opt1_of q3
  have rx := p3.rel.argT (p3.arg (p2.arg r)) zx
  have t := (p.trans p2).trans p3
  cases x <;> try exact q3.elim
  · cases rx
    exact .inr (.inr ⟨_, rfl, LN_le q3.1, k _ _ _ _ _ q3.2 (t.e rfl)⟩)
  · obtain ⟨a, vs, rfl, e, rr⟩ := rx
    refine .inr (.inl ⟨a, vs, rfl, e, fun hw => ?_, fun _ l hl => k _ _ _ _ _ q3 (t.post (post_tup p3.rel hl (rr.cut lo hi)))⟩)
    refine k _ _ _ _ _ q3 (t.e ⟨a, vs, rfl, e, ?_⟩)
    have c1 := rr.cut lo hi
    have e1 : cutV vs lo hi = vs := by
      unfold cutV
      rw [hw.1, hw.2]
      simp
    rw [e1] at c1
    exact c1
  · obtain ⟨a, vs, rfl, e, rr⟩ := rx
    exact .inl ⟨a, vs, rfl, SqL.of e, fun l hl => k _ _ _ _ _ q3 (t.post (post_lst p3.rel hl (rr.cut lo hi)))⟩
  · obtain ⟨a, vs, rfl, e, rr⟩ := rx
    exact .inl ⟨a, vs, rfl, fz_sq e, fun l hl => k _ _ _ _ _ q3 (t.post (post_lst p3.rel hl (rr.cut lo hi)))⟩

/-! ### the ends of a statement -/
structure PostS (K : PySem.W.Frag) (C : Act) (AV : Addr → Prop) (Γ : G) (σ : L2.St) (H : Hp) (Γ' : G) (σ' : L2.St) (H' : Hp) : Prop where
  step : Step (Acc Γ σ) H H'
  grow : ∀ b, Acc Γ' σ' b → Acc Γ σ b ∨ H b = none
  rel : Rel K C AV Γ' σ' H'
variable {K : PySem.W.Frag} {AV : Addr → Prop} {Γ Γ' Γ2 : G} {σ σ' σ2 : L2.St} {H H' H2 : Hp}
theorem PostT.s (p : PostT K C AV Γ σ H Γ' H') : PostS K C AV Γ σ H Γ' σ H' := ⟨p.step, fun _ z => .inl (acc_sub p.shr z), p.rel⟩
theorem PostS.refl (R : Rel K C AV Γ σ H) : PostS K C AV Γ σ H Γ σ H := (PostT.refl R).s
theorem none_of_there {b : Addr} (st : ∀ b, H b ≠ none → H' b ≠ none) (h : H' b = none) : H b = none := by
  cases z : H b with
  | none => rfl
  | some o => exact absurd h (st b (by rw [z]; exact fun q => nomatch q))
theorem PostS.trans (p : PostS K C AV Γ σ H Γ' σ' H') (q : PostS K C AV Γ' σ' H' Γ2 σ2 H2) : PostS K C AV Γ σ H Γ2 σ2 H2 :=
  ⟨p.step.trans q.step fun b hb z => (p.grow b z).elim id fun z => absurd z hb, fun b z => (q.grow b z).elim (p.grow b) fun z => .inr (none_of_there p.step.there z), q.rel⟩
/-- behind the store to a target: no list has become this frame's own -/
structure PostG (K : PySem.W.Frag) (C : Act) (AV : Addr → Prop) (Γ : G) (σ : L2.St) (H : Hp) (Γ' : G) (σ' : L2.St) (H' : Hp) : Prop where
  step : Step (Acc Γ σ) H H'
  shr : ∀ (i : Nat) s, Γ'[i]? = some s → s.isA = true → ∃ s0, Γ[i]? = some s0 ∧ s0.isA = true
  acc : ∀ b, Acc Γ' σ' b → Acc Γ σ b
  rel : Rel K C AV Γ' σ' H'
theorem PostG.s (p : PostG K C AV Γ σ H Γ' σ' H') : PostS K C AV Γ σ H Γ' σ' H' := ⟨p.step, fun b z => .inl (p.acc b z), p.rel⟩
theorem PostT.g (p : PostT K C AV Γ σ H Γ' H') : PostG K C AV Γ σ H Γ' σ H' := ⟨p.step, p.shr, fun _ z => acc_sub p.shr z, p.rel⟩
theorem PostG.refl (R : Rel K C AV Γ σ H) : PostG K C AV Γ σ H Γ σ H := (PostT.refl R).g
theorem PostG.trans (p : PostG K C AV Γ σ H Γ' σ' H') (q : PostG K C AV Γ' σ' H' Γ2 σ2 H2) : PostG K C AV Γ σ H Γ2 σ2 H2 :=
  ⟨p.step.trans q.step fun b _ z => p.acc b z, fun i s e z => by
    obtain ⟨s0, e0, z0⟩ := q.shr i s e z
    exact p.shr i s0 e0 z0, fun b z => p.acc b (q.acc b z), q.rel⟩
/-- behind a return -/
structure PostR (K : PySem.W.Frag) (C : Act) (d : D) (fl : Bool) (Γ' : G) (v : V) (H' : Hp) : Prop where
  frame : ∀ b o, C.Hs b = some o → (∀ i, (i, b) ∉ C.io) → H' b = some o
  there : ∀ b, C.Hs b ≠ none → H' b ≠ none
  ios : ∀ (i : Nat) a, (i, a) ∈ C.io → ∃ es vs, gAt Γ' i = .io es ∧ H' a = some (.lst vs) ∧ Reps K (fun b => C.AV b ∨ (fl = true ∧ v = .ref b)) H' es vs
  val : match fl with
    | false => Rep K C.AV H' d v
    | true => ∃ a vs ds, v = .ref a ∧ d = .lst ds ∧ C.Hs a = none ∧ H' a = some (.lst vs) ∧ Reps K (fun b => C.AV b ∨ (fl = true ∧ v = .ref b)) H' ds vs

structure VEnds where
  nx : G → Prop
  rt : D → Bool → G → Prop
  bk : G → Prop := fun _ => False
  ct : G → Prop := fun _ => False
abbrev WS := VEnds → G → Prop
def ls (K : PySem.W.Frag) (C : Act) (w : WS) : TS := fun D σ H => ∃ Γ AV E, Rel K C AV Γ σ H ∧ w E Γ ∧
  (∀ Γ' σ' H', E.nx Γ' → PostS K C AV Γ σ H Γ' σ' H' → D.nx σ' H') ∧
  (∀ d fl Γ' v H', E.rt d fl Γ' → PostR K C d fl Γ' v H' → D.rt v H') ∧
  (∀ Γ' σ' H', E.bk Γ' → PostS K C AV Γ σ H Γ' σ' H' → D.bk σ' H') ∧
  (∀ Γ' σ' H', E.ct Γ' → PostS K C AV Γ σ H Γ' σ' H' → D.ct σ' H')
def VS (X : Cx) (C : Act) (st : Stmt) (w : WS) : Prop := PS X st (ls X.K C w)
def VSs (X : Cx) (C : Act) (st : List Stmt) (w : WS) : Prop := PSs X st (ls X.K C w)
theorem PS.imp {t t' : TS} (h : PS X st t) (f : ∀ D σ H, t' D σ H → t D σ H) : PS X st t' := ⟨fun pins s σ H D I q => h.run pins s σ H D I (f D σ H q)⟩
theorem PSs.imp {t t' : TS} (h : PSs X sts t) (f : ∀ D σ H, t' D σ H → t D σ H) : PSs X sts t' := ⟨fun pins s σ H D I q => h.run pins s σ H D I (f D σ H q)⟩

def sNil : WS := fun E Γ => E.nx Γ
def sCons (w ws : WS) : WS := fun E Γ => w { E with nx := ws E } Γ
theorem vs_nil : VSs X C [] sNil := PSs.imp pss_nil fun D σ H ⟨Γ, AV, E, R, h, k1, _⟩ => k1 _ _ _ h (PostS.refl R)
theorem vs_cons {w ws : WS} (h1 : VS X C st w) (h2 : VSs X C rest ws) : VSs X C (st :: rest) (sCons w ws) :=
  PSs.imp (pss_cons h1 h2) fun D σ H ⟨Γ, AV, E, R, h, k1, k2, k3, k4⟩ => ⟨Γ, AV, _, R, h, fun Γ' σ' H' q p => ⟨Γ', AV, E, p.rel, q, fun _ _ _ q2 p2 => k1 _ _ _ q2 (p.trans p2), k2, fun _ _ _ q2 p2 => k3 _ _ _ q2 (p.trans p2), fun _ _ _ q2 p2 => k4 _ _ _ q2 (p.trans p2)⟩, k2, k3, k4⟩
theorem vs_one {w : WS} (h1 : VS X C st w) : VSs X C [st] w := pss_one h1
def sPass : WS := fun E Γ => E.nx Γ
theorem v_pass : VS X C (.Pass pos) sPass := PS.imp ps_pass fun D σ H ⟨Γ, AV, E, R, h, k1, _⟩ => k1 _ _ _ h (PostS.refl R)
def sBreak : WS := fun E Γ => E.bk Γ
def sCont : WS := fun E Γ => E.ct Γ
theorem v_break : VS X C (.Break pos) sBreak := PS.imp ps_break fun D σ H ⟨Γ, AV, E, R, h, _, _, k3, _⟩ => k3 _ _ _ h (PostS.refl R)
theorem v_continue : VS X C (.Continue pos) sCont := PS.imp ps_continue fun D σ H ⟨Γ, AV, E, R, h, _, _, _, k4⟩ => k4 _ _ _ h (PostS.refl R)
theorem v_doc {x j pos'} : VS X C (.Expr (.Constant (.str x) j pos) pos') sPass := PS.imp ps_doc fun D σ H ⟨Γ, AV, E, R, h, k1, _⟩ => k1 _ _ _ h (PostS.refl R)
def sDrop (w : WE) : WS := fun E Γ => w Γ fun _ _ Γ' => E.nx Γ'
theorem v_expr {w : WE} (h : VE X C e w) (hs : swapsWith e none pos.line X.env = pure false := by rfl) : VS X C (.Expr e pos) (sDrop w) :=
  PS.imp (ps_expr h hs) fun D σ H ⟨Γ, AV, E, R, h, k1, _⟩ => ⟨Γ, AV, _, R, h, fun d fl Γ' v H' q p => k1 _ _ _ q (p.t R).s⟩
def sNever : WS := fun _ _ => False
theorem v_never : VS X C st sNever := PS.imp ps_never fun D σ H ⟨Γ, AV, E, R, h, _⟩ => h.elim
theorem vs_never : VSs X C sts sNever := PSs.imp pss_never fun D σ H ⟨Γ, AV, E, R, h, _⟩ => h.elim

/-! ### return -/
theorem Rel.ret (R : Rel K C AV Γ σ H) {d : D} {v : V} (r : Rep K (AvA AV Γ σ) H d v) : PostR K C d false Γ v H := by
  refine ⟨R.frame, R.there, fun i a h => ?_, Rep.anti (fun b z => .inl (R.avs b z)) d v r⟩
  obtain ⟨ds, e1, e2⟩ := R.ios i a h
  obtain ⟨b, vs, h2, e3, e4, r4⟩ := R.io i ds e1
  rw [e2] at e3; cases e3
  exact ⟨ds, vs, gAt_of e1, e4, Reps.anti (fun b z => .inl (R.avs b (z.elim id fun z => nomatch z.1))) ds vs r4⟩
def sRet (w : WE) : WS := fun E Γ => w Γ fun d fl Γ' => E.rt d fl Γ'
theorem PostE.ret {d : D} {v : V} {fl : Bool} (R : Rel K C AV Γ σ H) (p : PostE K C AV Γ σ H Γ' H' d v fl) : PostR K C d fl Γ' v H' := by
  cases fl with
  | false => exact Rel.ret p.res.1 p.res.2
  | true =>
    obtain ⟨a, vs, ds, rfl, rfl, n, R1, e, r⟩ := p.res
    have sub : ∀ b, (C.AV b ∨ (true = true ∧ V.ref a = V.ref b)) → AvA (fun b => AV b ∨ b = a) Γ' σ b := fun b z => by
      rcases z with z | ⟨_, z⟩
      · exact .inl (R1.avs b z)
      · cases z; exact .inl (.inr rfl)
    refine ⟨R1.frame, R1.there, fun i b h => ?_, a, vs, ds, rfl, rfl, none_of_there R.there n, e, Reps.anti sub ds vs r⟩
    obtain ⟨es, e1, e2⟩ := R1.ios i b h
    obtain ⟨b', us, h2, e3, e4, r4⟩ := R1.io i es e1
    rw [e2] at e3; cases e3
    exact ⟨es, us, gAt_of e1, e4, Reps.anti sub es us r4⟩
theorem v_ret {w : WE} (h : VE X C e w) : VS X C (.Return (some e) pos) (sRet w) :=
  PS.imp (ps_ret h) fun D σ H ⟨Γ, AV, E, R, h, _, k2, _⟩ => ⟨Γ, AV, _, R, h, fun d fl Γ' v H' q p => k2 _ _ _ _ _ q (p.ret R)⟩
def sRetN : WS := fun E Γ => E.rt .non false Γ
theorem v_retN : VS X C (.Return none pos) sRetN := PS.imp ps_retN fun D σ H ⟨Γ, AV, E, R, h, _, k2, _⟩ => k2 _ _ _ _ _ h (R.ret rfl)
/-- return x: an own list goes to the caller -/
def sRetV (i : Nat) : WS := fun E Γ => match gAt Γ i with
  | .ac ds => E.rt (.lst ds) true Γ
  | .sh d => E.rt d false Γ
  | _ => False
theorem v_retv (i : Nat) {x : Str} {p : Pos} (hN : X.N[i]? = some x := by rfl) (hv : Vis X.env.scope x := by first | exact Or.inl rfl | exact Or.inr (Or.inl rfl) | exact Or.inr (Or.inr rfl)) (hd : (x == ("__debug__" : Str)) = false := by decide)
    (hcd : (x == ("__classdict__" : Str)) = false := by decide) : VS X C (.Return (some (.Name x p)) pos) (sRetV i) := by
  refine PS.imp (ps_ret (pe_var hN hv hd hcd)) fun D σ H ⟨Γ, AV, E, R, h, _, k2, _⟩ => ?_
  have h : (match gAt Γ i with
  | .ac ds => E.rt (.lst ds) true Γ
  | .sh d => E.rt d false Γ
  | _ => False) := h
  cases z : gAt Γ i with
  | un => rw [z] at h; exact h.elim
  | io ds => rw [z] at h; exact h.elim
  | sh d =>
    rw [z] at h
    obtain ⟨u, e1, q⟩ := R.sh i d (gAt_some z (fun q => nomatch q))
    exact ⟨u, e1, k2 _ _ _ _ _ h (R.ret q)⟩
  | ac ds =>
    rw [z] at h
    have hs := gAt_some z (fun q => nomatch q)
    obtain ⟨a, vs, e1, e2, r, q1, q2⟩ := R.ac i ds hs
    have sub : ∀ b, (C.AV b ∨ (true = true ∧ V.ref a = V.ref b)) → AvA AV Γ σ b := fun b z => by
      rcases z with z | ⟨_, z⟩
      · exact .inl (R.avs b z)
      · cases z; exact .inr ⟨i, _, hs, rfl, e1⟩
    refine ⟨_, e1, k2 _ _ _ _ _ h ⟨R.frame, R.there, fun j b hb => ?_, a, vs, ds, rfl, rfl, q1, e2, Reps.anti sub ds vs r⟩⟩
    obtain ⟨es, f1, f2⟩ := R.ios j b hb
    obtain ⟨b', us, h2, f3, f4, r4⟩ := R.io j es f1
    rw [f2] at f3; cases f3
    exact ⟨es, us, gAt_of f1, f4, Reps.anti sub es us r4⟩

/-! ### if, while -/
def sIf (t : WT) (u v : WS) : WS := fun E Γ => t Γ fun b Γ' => if b = true then u E Γ' else v E Γ'
theorem v_if {t : WT} {u v : WS} {as bs : List Stmt} (hc : VT X C c t) (ha : VSs X C as u) (hb : VSs X C bs v) : VS X C (.If c as bs pos) (sIf t u v) := by
  refine PS.imp (ps_if hc ha hb) fun D σ H ⟨Γ, AV, E, R, h, k1, k2, k3, k4⟩ => ⟨Γ, AV, _, R, h, fun b Γ1 H1 q p => ?_⟩
  cases b with
  | true => simp only [if_true] at q ⊢; exact ⟨Γ1, AV, E, p.rel, q, fun _ _ _ q2 p2 => k1 _ _ _ q2 (p.s.trans p2), k2, fun _ _ _ q2 p2 => k3 _ _ _ q2 (p.s.trans p2), fun _ _ _ q2 p2 => k4 _ _ _ q2 (p.s.trans p2)⟩
  | false => simp only [Bool.false_eq_true, if_false] at q ⊢; exact ⟨Γ1, AV, E, p.rel, q, fun _ _ _ q2 p2 => k1 _ _ _ q2 (p.s.trans p2), k2, fun _ _ _ q2 p2 => k3 _ _ _ q2 (p.s.trans p2), fun _ _ _ q2 p2 => k4 _ _ _ q2 (p.s.trans p2)⟩
def whileN (t : WT) (u : WS) (E : VEnds) : Nat → G → Prop
  | 0, _ => False
  | n + 1, Γ => t Γ fun b Γ' => if b = true then u { E with nx := whileN t u E n, ct := whileN t u E n, bk := E.nx } Γ' else E.nx Γ'
def sWhile (t : WT) (u : WS) : WS := fun E Γ => ∃ n, whileN t u E n Γ
theorem v_while {t : WT} {u : WS} {body : List Stmt} (hp : PassesOwn (model X.prog X.w) X.A X.env X.xe) (hc : VT X C c t) (hb : VSs X C body u) : VS X C (.While c body [] pos) (sWhile t u) := by
  refine PS.imp (ps_while hp hc hb) fun D σ H ⟨Γ, AV, E, R, ⟨n, h⟩, k1, k2, k3, k4⟩ => ?_
  refine ⟨fun m σ1 H1 => ∃ Γ1, whileN t u E m Γ1 ∧ PostS X.K C AV Γ σ H Γ1 σ1 H1, ⟨n, Γ, h, PostS.refl R⟩, ?_⟩
  rintro m σ1 H1 ⟨Γ1, h1, p1⟩
  cases m with
  | zero => exact h1.elim
  | succ m =>
    refine ⟨Γ1, AV, _, p1.rel, h1, fun b Γ2 H2 q p2 => ?_⟩
    cases b with
    | true =>
      simp only [if_true] at q ⊢
      refine ⟨fun σ' H' => ∃ Γ', whileN t u E m Γ' ∧ PostS X.K C AV Γ σ H Γ' σ' H', fun σ' H' w => ⟨m, Nat.lt_succ_self m, w⟩, ?_⟩
      exact ⟨Γ2, AV, _, p2.rel, q, fun Γ' σ' H' q3 p3 => ⟨Γ', q3, (p1.trans p2.s).trans p3⟩, k2, fun Γ' σ' H' q3 p3 => k1 _ _ _ q3 ((p1.trans p2.s).trans p3), fun Γ' σ' H' q3 p3 => ⟨Γ', q3, (p1.trans p2.s).trans p3⟩⟩
    | false =>
      simp only [Bool.false_eq_true, if_false] at q ⊢
      exact k1 _ _ _ q (p1.trans p2.s)

/-! ### targets -/
abbrev WG := D → G → (G → Prop) → Prop
abbrev WGs := List D → G → (G → Prop) → Prop
def slotOf : Bool → D → Slot
  | true, .lst ds => .ac ds
  | _, d => .sh d
/-- a slot that may be stored to -/
def gPut (Γ : G) (i : Nat) (s : Slot) (k : G → Prop) : Prop := match gAt Γ i with
  | .io _ => False
  | _ => k (gSet Γ i s)
theorem gPut_of {i : Nat} {s : Slot} {k : G → Prop} (h : gPut Γ i s k) : (∀ ds, Γ[i]? ≠ some (.io ds)) ∧ k (Γ.set i s) := by
  unfold gPut at h
  rw [← gSet_eq]
  cases z : gAt Γ i with
  | io ds => rw [z] at h; exact h.elim
  | un => rw [z] at h; exact ⟨fun ds e => (by rw [gAt_of e] at z; cases z), h⟩
  | sh d => rw [z] at h; exact ⟨fun ds e => (by rw [gAt_of e] at z; cases z), h⟩
  | ac ds => rw [z] at h; exact ⟨fun ds e => (by rw [gAt_of e] at z; cases z), h⟩
/-- a shared value is stored -/
theorem Rel.put (R : Rel K C AV Γ σ H) {i : Nat} {d : D} {v : V} (n : ∀ ds, Γ[i]? ≠ some (.io ds)) (r : Rep K (AvA AV Γ σ) H d v) : PostG K C AV Γ σ H (Γ.set i (.sh d)) (σ.set i (some v)) H := by
  have sub : ∀ b, Acc (Γ.set i (.sh d)) (σ.set i (some v)) b → Acc Γ σ b := fun b ⟨j, s, e1, q, r⟩ => by
    rcases getSet e1 with ⟨_, rfl, _⟩ | ⟨hn, e2⟩
    · cases q
    · rcases getSet r with ⟨z, _⟩ | ⟨_, r2⟩
      · exact absurd z hn
      · exact ⟨j, s, e2, q, r2⟩
  have sub2 : ∀ b, AvA AV (Γ.set i (.sh d)) (σ.set i (some v)) b → AvA AV Γ σ b := fun b h => h.elim .inl fun z => .inr (sub b z)
  refine ⟨Step.refl, fun j s e q => ?_, sub, R.avs, R.avt, fun j d' e => ?_, fun j es e => ?_, fun j es e => ?_, fun j b hb => ?_, fun j k s t b h1 h2 h3 h4 h5 h6 => ?_, R.frame, R.there, by simpa using R.len⟩
  · rcases getSet e with ⟨_, rfl, _⟩ | ⟨hn, e2⟩
    · cases q
    · exact ⟨s, e2, q⟩
  · rcases getSet e with ⟨rfl, e2, hl⟩ | ⟨hn, e2⟩
    · cases e2
      exact ⟨v, by rw [List.getElem?_set_self (by rw [← R.len]; exact hl)], Rep.anti sub2 d v r⟩
    · obtain ⟨u, e3, r3⟩ := R.sh j d' e2
      exact ⟨u, by rw [List.getElem?_set_ne hn]; exact e3, Rep.anti sub2 d' u r3⟩
  · rcases getSet e with ⟨_, e2, _⟩ | ⟨hn, e2⟩
    · cases e2
    · obtain ⟨b, us, f1, f2, f3, f4⟩ := R.ac j es e2
      exact ⟨b, us, by rw [List.getElem?_set_ne hn]; exact f1, f2, Reps.anti sub2 es us f3, f4⟩
  · rcases getSet e with ⟨_, e2, _⟩ | ⟨hn, e2⟩
    · cases e2
    · obtain ⟨b, us, f0, f1, f2, f3⟩ := R.io j es e2
      exact ⟨b, us, f0, by rw [List.getElem?_set_ne hn]; exact f1, f2, Reps.anti sub2 es us f3⟩
  · obtain ⟨es, f1, f2⟩ := R.ios j b hb
    have hn : i ≠ j := fun z => by subst z; exact n es f1
    exact ⟨es, by rw [List.getElem?_set_ne hn]; exact f1, by rw [List.getElem?_set_ne hn]; exact f2⟩
  · rcases getSet h1 with ⟨_, rfl, _⟩ | ⟨n1, g1⟩
    · cases h2
    · rcases getSet h3 with ⟨_, rfl, _⟩ | ⟨n3, g3⟩
      · cases h4
      · rw [List.getElem?_set_ne n1] at h5
        rw [List.getElem?_set_ne n3] at h6
        exact R.inj j k s t b g1 h2 g3 h4 h5 h6
/-- a new list is stored: it is this frame's own -/
theorem Rel.putA {i : Nat} {ds : List D} {vs : List V} {a : Addr} (R : Rel K C (fun b => AV b ∨ b = a) Γ σ H) (hC : ∀ b, C.AV b → AV b) (n : ∀ ds, Γ[i]? ≠ some (.io ds)) (ha : C.Hs a = none) (hv : ¬ AV a) (hacc : ¬ Acc Γ σ a)
    (e0 : H a = some (.lst vs)) (r : Reps K (AvA (fun b => AV b ∨ b = a) Γ σ) H ds vs) : Rel K C AV (Γ.set i (.ac ds)) (σ.set i (some (.ref a))) H ∧ ∀ b, Acc (Γ.set i (.ac ds)) (σ.set i (some (.ref a))) b → Acc Γ σ b ∨ b = a := by
  have sub : ∀ b, Acc (Γ.set i (.ac ds)) (σ.set i (some (.ref a))) b → Acc Γ σ b ∨ b = a := fun b ⟨j, s, e1, q, r⟩ => by
    rcases getSet e1 with ⟨rfl, rfl, _⟩ | ⟨hn, e2⟩
    · rcases getSet r with ⟨_, z, _⟩ | ⟨z, _⟩
      · cases z; exact .inr rfl
      · exact absurd rfl z
    · rcases getSet r with ⟨z, _⟩ | ⟨_, r2⟩
      · exact absurd z hn
      · exact .inl ⟨j, s, e2, q, r2⟩
  have sub2 : ∀ b, AvA AV (Γ.set i (.ac ds)) (σ.set i (some (.ref a))) b → AvA (fun b => AV b ∨ b = a) Γ σ b := fun b h => by
    rcases h with h | h
    · exact .inl (.inl h)
    · rcases sub b h with h | h
      · exact .inr h
      · exact .inl (.inr h)
  refine ⟨⟨hC, fun b z => R.avt b (.inl z), fun j d' e => ?_, fun j es e => ?_, fun j es e => ?_, fun j b hb => ?_, fun j k s t b h1 h2 h3 h4 h5 h6 => ?_, R.frame, R.there, by simpa using R.len⟩, sub⟩
  · rcases getSet e with ⟨_, e2, _⟩ | ⟨hn, e2⟩
    · cases e2
    · obtain ⟨u, e3, r3⟩ := R.sh j d' e2
      exact ⟨u, by rw [List.getElem?_set_ne hn]; exact e3, Rep.anti sub2 d' u r3⟩
  · rcases getSet e with ⟨rfl, e2, hl⟩ | ⟨hn, e2⟩
    · cases e2
      exact ⟨a, vs, by rw [List.getElem?_set_self (by rw [← R.len]; exact hl)], e0, Reps.anti sub2 _ vs r, ha, hv⟩
    · obtain ⟨b, us, f1, f2, f3, f4, f5⟩ := R.ac j es e2
      exact ⟨b, us, by rw [List.getElem?_set_ne hn]; exact f1, f2, Reps.anti sub2 es us f3, f4, fun z => f5 (.inl z)⟩
  · rcases getSet e with ⟨_, e2, _⟩ | ⟨hn, e2⟩
    · cases e2
    · obtain ⟨b, us, f0, f1, f2, f3⟩ := R.io j es e2
      exact ⟨b, us, f0, by rw [List.getElem?_set_ne hn]; exact f1, f2, Reps.anti sub2 es us f3⟩
  · obtain ⟨es, f1, f2⟩ := R.ios j b hb
    have hn : i ≠ j := fun z => by subst z; exact n es f1
    exact ⟨es, by rw [List.getElem?_set_ne hn]; exact f1, by rw [List.getElem?_set_ne hn]; exact f2⟩
  · have key : ∀ j' s', (Γ.set i (.ac ds))[j']? = some s' → s'.isA = true → (σ.set i (some (.ref a)))[j']? = some (some (.ref b)) → (i = j' ∧ b = a) ∨ (i ≠ j' ∧ Γ[j']? = some s' ∧ σ[j']? = some (some (.ref b))) := fun j' s' g1 g2 g3 => by
      rcases getSet g1 with ⟨rfl, _⟩ | ⟨hn, g4⟩
      · rcases getSet g3 with ⟨_, z, _⟩ | ⟨z, _⟩
        · cases z; exact .inl ⟨rfl, rfl⟩
        · exact absurd rfl z
      · rw [List.getElem?_set_ne hn] at g3
        exact .inr ⟨hn, g4, g3⟩
    rcases key j s h1 h2 h5 with ⟨rfl, rfl⟩ | ⟨n1, g1, g5⟩ <;> rcases key k t h3 h4 h6 with ⟨rfl, z⟩ | ⟨n3, g3, g6⟩
    · rfl
    · exact absurd ⟨k, t, g3, h4, g6⟩ hacc
    · subst z; exact absurd ⟨j, s, g1, h2, g5⟩ hacc
    · exact R.inj j k s t b g1 h2 g3 h4 g5 g6
/-- behind an expression its value is stored -/
theorem PostE.put {i : Nat} {d : D} {v : V} {fl : Bool} (R : Rel K C AV Γ σ H) (p : PostE K C AV Γ σ H Γ' H' d v fl) (n : ∀ ds, Γ'[i]? ≠ some (.io ds)) : PostS K C AV Γ σ H (Γ'.set i (slotOf fl d)) (σ.set i (some v)) H' := by
  have sh : slotOf fl d = .sh d → PostS K C AV Γ σ H (Γ'.set i (slotOf fl d)) (σ.set i (some v)) H' := fun e => by
    rw [e]
    exact (p.t R).s.trans ((p.rel R).1.put n (p.rel R).2).s
  cases fl with
  | false => exact sh rfl
  | true =>
    obtain ⟨a, vs, ds, rfl, rfl, hn, R1, e, r⟩ := p.res
    have ha : ¬ AvA AV Γ σ a := fun z => R.avaT z hn
    obtain ⟨R2, sub⟩ := R1.putA R.avs n (none_of_there R.there hn) (fun z => ha (.inl z)) (fun z => ha (.inr (acc_sub p.shr z))) e r
    exact ⟨p.step, fun b z => (sub b z).elim (fun z => .inl (acc_sub p.shr z)) fun z => by rw [z]; exact .inr hn, R2⟩

def sSet (i : Nat) (w : WE) : WS := fun E Γ => w Γ fun d fl Γ' => gPut Γ' i (slotOf fl d) E.nx
theorem asg_put {K : PySem.W.Frag} {w : WE} {i : Nat} (D : Ends) (σ : L2.St) (H : Hp) (h : ls K C (sSet i w) D σ H) : tAsg (lf K C w) (gName i) D σ H := by
  obtain ⟨Γ, AV, E, R, h, k1, _⟩ := h
  refine ⟨Γ, AV, _, R, h, fun d fl Γ' v H' q p => ?_⟩
  obtain ⟨n, q⟩ := gPut_of q
  exact k1 _ _ _ q (p.put R n)
theorem v_set {i : Nat} {x : Str} {e : Expr} {w : WE} {pos' : Pos} (hN : X.N.Nodup) (he : VE X C e w) (hi : X.N[i]? = some x := by rfl) (hx : Loc X.env.scope x := by first | exact Or.inl rfl | exact Or.inr rfl) (hs : swapsWith e (some (.Name x pos')) pos.line X.env = pure false := by rfl)
    (hf : X.fn x = true ∨ X.env.scope.names.lookup x = some .local := by first | exact .inl rfl | exact .inr rfl | assumption) : VS X C (.Assign [.Name x pos'] e pos) (sSet i w) :=
  PS.imp (ps_set hN hi hx he hs hf) asg_put

def lg (K : PySem.W.Frag) (C : Act) (w : WG) : TG := fun v σ H Q => ∃ Γ AV d Qv, Rel K C AV Γ σ H ∧ Rep K (AvA AV Γ σ) H d v ∧ w d Γ Qv ∧ ∀ Γ' σ' H', Qv Γ' → PostG K C AV Γ σ H Γ' σ' H' → Q σ' H'
def lgs (K : PySem.W.Frag) (C : Act) (w : WGs) : TGs := fun vs σ H Q => ∃ Γ AV ds Qv, Rel K C AV Γ σ H ∧ Reps K (AvA AV Γ σ) H ds vs ∧ w ds Γ Qv ∧ ∀ Γ' σ' H', Qv Γ' → PostG K C AV Γ σ H Γ' σ' H' → Q σ' H'
/-- a target; sl: the slots that it stores to -/
structure VG (X : Cx) (C : Act) (e : Expr) (w : WG) (sl : List Nat) : Prop where
  run : PG X e (fun v σ H Q => lg X.K C w v σ H fun σ' H' => (∀ i, i ∉ sl → σ'[i]? = σ[i]?) → σ'.length = σ.length → Q σ' H')
structure VGs (X : Cx) (C : Act) (es : List Expr) (w : WGs) (sl : List Nat) : Prop where
  run : PGs X es (fun v σ H Q => lgs X.K C w v σ H fun σ' H' => (∀ i, i ∉ sl → σ'[i]? = σ[i]?) → σ'.length = σ.length → Q σ' H')
theorem PG.imp {t t' : TG} (h : PG X e t) (f : ∀ v σ H Q, t' v σ H Q → t v σ H Q) : PG X e t' := ⟨fun pins s σ H v u Q I r q => h.run pins s σ H v u Q I r (f v σ H Q q)⟩
theorem PGs.imp {t t' : TGs} (h : PGs X es t) (f : ∀ v σ H Q, t' v σ H Q → t v σ H Q) : PGs X es t' := ⟨fun pins s σ H v u Q I r q => h.run pins s σ H v u Q I r (f v σ H Q q)⟩
def gNm (i : Nat) : WG := fun d Γ k => gPut Γ i (.sh d) k
theorem vg_name {i : Nat} {x : Str} (hN : X.N.Nodup) (hi : X.N[i]? = some x := by rfl) (hx : Loc X.env.scope x := by first | exact Or.inl rfl | exact Or.inr rfl) (hf : X.fn x = true ∨ X.env.scope.names.lookup x = some .local := by first | exact .inl rfl | exact .inr rfl | assumption) : VG X C (.Name x pos) (gNm i) [i] := by
  refine ⟨PG.imp (pg_name hN hi hx hf) fun v σ H Q ⟨Γ, AV, d, Qv, R, r, h, k⟩ => ?_⟩
  obtain ⟨n, q⟩ := gPut_of h
  refine k _ _ _ q (R.put n r) (fun j hj => List.getElem?_set_ne fun z => hj (by simp [z])) (by simp)
def gsNil : WGs := fun ds Γ k => match ds with
  | [] => k Γ
  | _ => False
def gsCons (w : WG) (ws : WGs) : WGs := fun ds Γ k => match ds with
  | d :: ds => w d Γ fun Γ' => ws ds Γ' k
  | [] => False
theorem vgs_nil : VGs X C [] gsNil [] := by
  refine ⟨PGs.imp pgs_nil fun v σ H Q ⟨Γ, AV, ds, Qv, R, r, h, k⟩ => ?_⟩
  cases ds with
  | cons d ds => exact h.elim
  | nil => exact ⟨r, k _ _ _ h (PostG.refl R) (fun _ _ => rfl) rfl⟩
theorem PostS.reps {ds : List D} {vs : List V} (p : PostS K C AV Γ σ H Γ' σ' H') (r : Reps K (AvA AV Γ σ) H ds vs) : Reps K (AvA AV Γ' σ') H' ds vs := by
  have r1 := Reps.step p.step (fun b (z : Acc Γ σ b) => (Or.inl (Or.inr z) : AvA AV Γ σ b ∨ H b = none)) ds vs (Reps.fresh ds vs r)
  refine Reps.anti (fun b z => ?_) ds vs r1
  rcases z with z | z
  · exact .inl (.inl z)
  · rcases p.grow b z with z | z
    · exact .inl (.inr z)
    · exact .inr z
theorem PostS.rep {d : D} {v : V} (p : PostS K C AV Γ σ H Γ' σ' H') (r : Rep K (AvA AV Γ σ) H d v) : Rep K (AvA AV Γ' σ') H' d v := by
  obtain ⟨u, r', e, h, _⟩ := p.reps (Reps.one r)
  cases e
  exact h
theorem vgs_cons {w : WG} {ws : WGs} {s1 s2 : List Nat} (h1 : VG X C e w s1) (h2 : VGs X C es ws s2) (hs : (assignEach (e :: es) X.env).map (·.2) = assign e X.env :: (assignEach es X.env).map (·.2) := by rfl) : VGs X C (e :: es) (gsCons w ws) (s1 ++ s2) := by
  refine ⟨PGs.imp (pgs_cons h1.run h2.run hs) fun vs σ H Q ⟨Γ, AV, ds, Qv, R, r, h, k⟩ => ?_⟩
  cases ds with
  | nil => exact h.elim
  | cons d ds =>
    obtain ⟨v, us, rfl, r1, r2⟩ := r
    refine ⟨v, us, rfl, Γ, AV, d, _, R, r1, h, fun Γ1 σ1 H1 q p hk hl => ⟨Γ1, AV, ds, _, p.rel, p.s.reps r2, q, fun Γ2 σ2 H2 q2 p2 hk2 hl2 => ?_⟩⟩
    exact k _ _ _ q2 (p.trans p2) (fun i hi => (hk2 i fun z => hi (List.mem_append_right _ z)).trans (hk i fun z => hi (List.mem_append_left _ z))) (hl2.trans hl)
def gTp (n : Nat) (ws : WGs) : WG := fun d Γ k => match d with
  | .tup ds => ds.length = n ∧ ws ds Γ k
  | _ => False
theorem vg_tup {k : Nat} {ws : WGs} {n : Nat} {sl : List Nat} (hc : X.calm = true) (h : VGs X C es ws sl) (hn : (assignEach es X.env).length = n := by rfl) (hst : (assignEach es X.env).findIdx? (·.1) = none := by rfl) : VG X C (.Tuple es k pos) (gTp n ws) sl := by
  refine ⟨PG.imp (pg_tup hc h.run hn hst) fun v σ H Q ⟨Γ, AV, d, Qv, R, r, h, k⟩ => ?_⟩
  cases d <;> try exact h.elim
  obtain ⟨a, vs, rfl, e, rr⟩ := r
  exact ⟨a, vs, rfl, e, by rw [← rr.length]; exact h.1, Γ, AV, _, Qv, R, rr, h.2, k⟩
/-- target = value -/
def sAsg (w : WE) (g : WG) : WS := fun E Γ => w Γ fun d _ Γ' => g d Γ' E.nx
theorem v_asg {w : WE} {g : WG} {sl : List Nat} (he : VE X C e w) (hg : VG X C tg g sl) (hs : swapsWithSole [tg] e pos.line X.env = pure false := by rfl) (hw : swappedStores [tg] e X.env = pure none := by rfl)
    (h1 : (assignEach [tg] X.env).map (·.2) = [assign tg X.env] := by rfl) : VS X C (.Assign [tg] e pos) (sAsg w g) :=
  PS.imp (ps_asg he hg.run hs hw h1) fun D σ H ⟨Γ, AV, E, R, h, k1, _⟩ => ⟨Γ, AV, _, R, h, fun d fl Γ' v H' q p => ⟨Γ', AV, d, _, (p.rel R).1, (p.rel R).2, q, fun Γ2 σ2 H2 q2 p2 _ _ => k1 _ _ _ q2 ((p.t R).s.trans p2.s)⟩⟩
end
end VL

-- VE
/-! VE: lists that are written (x[i] = e, append, extend, pop), several names at once. -/
namespace VL
open PySem PySem.Spec L2

/-! ### own lists are written -/
def Slot.its : Slot → Option (List D)
  | .ac ds => some ds
  | .io ds => some ds
  | _ => none
def Slot.to : Slot → List D → Slot
  | .io _, ds => .io ds
  | _, ds => .ac ds
theorem Slot.its_of {s : Slot} {ds : List D} (h : s.its = some ds) : s = .ac ds ∨ s = .io ds := by
  cases s with
  | un => cases h
  | sh d => cases h
  | ac es => cases h; exact .inl rfl
  | io es => cases h; exact .inr rfl
theorem Slot.its_un {s : Slot} {ds : List D} (h : s.its = some ds) : s ≠ .un := fun z => by rw [z] at h; cases h
theorem Slot.its_A {s : Slot} {ds : List D} (h : s.its = some ds) : s.isA = true := by
  rcases Slot.its_of h with rfl | rfl <;> rfl
section
variable {K : PySem.W.Frag} {C : Act} {AV : Addr → Prop} {Γ Γ' Γ2 : G} {σ σ' σ2 : L2.St} {H H' H2 : Hp}
theorem Rel.its (R : Rel K C AV Γ σ H) {i : Nat} {ds : List D} (e : (gAt Γ i).its = some ds) : ∃ a vs, σ[i]? = some (some (.ref a)) ∧ H a = some (.lst vs) ∧ Reps K (AvA AV Γ σ) H ds vs := by
  have hs := gAt_some rfl (Slot.its_un e)
  rcases Slot.its_of e with z | z
  · rw [z] at hs
    obtain ⟨a, vs, e1, e2, r, _⟩ := R.ac i ds hs
    exact ⟨a, vs, e1, e2, r⟩
  · rw [z] at hs
    obtain ⟨a, vs, _, e1, e2, r⟩ := R.io i ds hs
    exact ⟨a, vs, e1, e2, r⟩
/-- an own list is written -/
theorem Rel.wr (R : Rel K C AV Γ σ H) {i : Nat} {ds ds' : List D} {a : Addr} {vs vs' : List V} (e : (gAt Γ i).its = some ds) (e1 : σ[i]? = some (some (.ref a))) (e2 : H a = some (.lst vs)) (r : Reps K (AvA AV Γ σ) H ds' vs') :
    PostT K C AV Γ σ H (gSet Γ i ((gAt Γ i).to ds')) (upd H a (.lst vs')) := by
  have hs := gAt_some rfl (Slot.its_un e)
  have hA := Slot.its_A e
  have ha : Acc Γ σ a := ⟨i, _, hs, hA, e1⟩
  have st : Step (fun b => b = a) H (upd H a (.lst vs')) := Step.wr e2 rfl
  rw [gSet_eq]
  have hto : ((gAt Γ i).to ds').isA = true := by
    rcases Slot.its_of e with z | z <;> rw [z] <;> rfl
  have sub : ∀ b, Acc (Γ.set i ((gAt Γ i).to ds')) σ b → Acc Γ σ b := fun b ⟨j, s, f1, q, f2⟩ => by
    rcases getSet f1 with ⟨rfl, rfl, _⟩ | ⟨hn, f3⟩
    · exact ⟨i, _, hs, hA, f2⟩
    · exact ⟨j, s, f3, q, f2⟩
  have sub2 : ∀ b, AvA AV (Γ.set i ((gAt Γ i).to ds')) σ b → AvA AV Γ σ b := fun b h => h.elim .inl fun z => .inr (sub b z)
  have one : ∀ b, b = a → AvA AV Γ σ b := fun b z => by rw [z]; exact .inr ha
  have rs : ∀ {es us}, Reps K (AvA AV Γ σ) H es us → Reps K (AvA AV (Γ.set i ((gAt Γ i).to ds')) σ) (upd H a (.lst vs')) es us := fun q => Reps.anti sub2 _ _ (Reps.step st one _ _ q)
  refine ⟨st.mono fun b z => by rw [z]; exact ha, fun j s f1 q => ?_, R.avs, fun b z => st.there b (R.avt b z), fun j d f => ?_, fun j es f => ?_, fun j es f => ?_, fun j b hb => ?_, fun j k s t b h1 h2 h3 h4 h5 h6 => ?_, fun b o h1 h2 => ?_, fun b z => st.there b (R.there b z), by simpa using R.len⟩
  · rcases getSet f1 with ⟨rfl, _⟩ | ⟨_, f2⟩
    · exact ⟨_, hs, hA⟩
    · exact ⟨s, f2, q⟩
  · rcases getSet f with ⟨_, z, _⟩ | ⟨hn, f2⟩
    · rw [← z] at hto; cases hto
    · obtain ⟨v, f3, r3⟩ := R.sh j d f2
      exact ⟨v, f3, Rep.anti sub2 d v (Rep.step st one d v r3)⟩
  · rcases getSet f with ⟨rfl, z, _⟩ | ⟨hn, f2⟩
    · rcases Slot.its_of e with y | y
      · rw [y] at z hs
        cases z
        obtain ⟨b, us, g1, g2, g3, g4⟩ := R.ac i ds hs
        rw [e1] at g1; cases g1
        exact ⟨a, vs', e1, upd_same, rs r, g4⟩
      · rw [y] at z; cases z
    · obtain ⟨b, us, g1, g2, g3, g4⟩ := R.ac j es f2
      have hb : b ≠ a := fun z => by subst z; exact hn (R.inj i j _ _ b hs hA f2 rfl e1 g1)
      exact ⟨b, us, g1, by rw [upd_ne hb]; exact g2, rs g3, g4⟩
  · rcases getSet f with ⟨rfl, z, _⟩ | ⟨hn, f2⟩
    · rcases Slot.its_of e with y | y
      · rw [y] at z; cases z
      · rw [y] at z hs
        cases z
        obtain ⟨b, us, g0, g1, g2, g3⟩ := R.io i ds hs
        rw [e1] at g1; cases g1
        exact ⟨a, vs', g0, e1, upd_same, rs r⟩
    · obtain ⟨b, us, g0, g1, g2, g3⟩ := R.io j es f2
      have hb : b ≠ a := fun z => by subst z; exact hn (R.inj i j _ _ b hs hA f2 rfl e1 g1)
      exact ⟨b, us, g0, g1, by rw [upd_ne hb]; exact g2, rs g3⟩
  · obtain ⟨es, g1, g2⟩ := R.ios j b hb
    by_cases hij : i = j
    · subst hij
      have y : gAt Γ i = .io es := gAt_of g1
      exact ⟨ds', by rw [y, List.getElem?_set_self (List.getElem?_eq_some_iff.mp g1).1]; rfl, g2⟩
    · exact ⟨es, by rw [List.getElem?_set_ne hij]; exact g1, g2⟩
  · have key : ∀ (j' : Nat) (s' : Slot), (Γ.set i ((gAt Γ i).to ds'))[j']? = some s' → s'.isA = true → ∃ s0, Γ[j']? = some s0 ∧ s0.isA = true := fun j' s' g1 g2 => by
      rcases getSet g1 with ⟨rfl, _⟩ | ⟨_, g3⟩
      · exact ⟨_, hs, hA⟩
      · exact ⟨s', g3, g2⟩
    obtain ⟨s0, x1, x2⟩ := key j s h1 h2
    obtain ⟨t0, y1, y2⟩ := key k t h3 h4
    exact R.inj j k s0 t0 b x1 x2 y1 y2 h5 h6
  · have hb : b ≠ a := fun z => by
      subst z
      rcases Slot.its_of e with y | y
      · rw [y] at hs
        obtain ⟨b', us, g1, g2, g3, g4, g5⟩ := R.ac i ds hs
        rw [e1] at g1; cases g1
        rw [g4] at h1; cases h1
      · rw [y] at hs
        obtain ⟨b', us, g0, g1, g2⟩ := R.io i ds hs
        rw [e1] at g1; cases g1
        exact h2 i g0
    rw [upd_ne hb]
    exact R.frame b o h1 h2
theorem its_back (shr : ∀ (i : Nat) s, Γ'[i]? = some s → s.isA = true → ∃ s0, Γ[i]? = some s0 ∧ s0.isA = true) {i : Nat} {ds : List D} (e : (gAt Γ' i).its = some ds) : ∃ es, (gAt Γ i).its = some es := by
  obtain ⟨s0, e0, q⟩ := shr i _ (gAt_some rfl (Slot.its_un e)) (Slot.its_A e)
  rw [gAt_of e0]
  cases s0 with
  | un => cases q
  | sh d => cases q
  | ac es => exact ⟨es, rfl⟩
  | io es => exact ⟨es, rfl⟩
end

def onI (o : Option (List D)) (k : List D → Prop) : Prop := match o with
  | some ds => k ds
  | none => False
theorem onI_of {o : Option (List D)} {k : List D → Prop} (h : onI o k) : ∃ ds, o = some ds ∧ k ds := by
  cases o with
  | none => exact h.elim
  | some ds => exact ⟨ds, rfl, h⟩
def onN (o : Option Nat) (k : Nat → Prop) : Prop := match o with
  | some ds => k ds
  | none => False
theorem onN_of {o : Option Nat} {k : Nat → Prop} (h : onN o k) : ∃ ds, o = some ds ∧ k ds := by
  cases o with
  | none => exact h.elim
  | some ds => exact ⟨ds, rfl, h⟩
/-- the slot's list becomes f of it -/
def gWr (Γ : G) (i : Nat) (ds : List D) : G := gSet Γ i ((gAt Γ i).to ds)
section
variable {X : Cx} {C : Act} {e a b c tg iter elt ie : Expr} {es : List Expr} {st : Stmt} {rest sts : List Stmt} {pos p2 apos cpos : Pos}
/-- x[e] = .. -/
def gSubN (i : Nat) (wi : WE) : WG := fun d Γ k => onI (gAt Γ i).its fun _ => wi Γ fun x _ Γ1 => isI x fun n => onI (gAt Γ1 i).its fun ds => onN (ixN ds.length n) fun j => k (gWr Γ1 i (ds.set j d))
theorem vg_subN {i : Nat} {wi : WE} {x : Str} {p : Pos} (hi : VE X C ie wi) (hN : X.N[i]? = some x := by rfl) (hv : Vis X.env.scope x := by first | exact Or.inl rfl | exact Or.inr (Or.inl rfl) | exact Or.inr (Or.inr rfl)) (hd : (x == ("__debug__" : Str)) = false := by decide)
    (hcd : (x == ("__classdict__" : Str)) = false := by decide)
    (ha : ∀ v, assign (.Subscript (.Name x p) ie pos) X.env v = (do
      let ov ← holding [v] (eval (.Name x p) X.env)
      let iv ← holding [v, ov] (eval ie X.env)
      standAt pos
      holding [v, ov, iv] (setItem ov iv v)
      release [v, ov, iv] []) := by intro _; rfl) : VG X C (.Subscript (.Name x p) ie pos) (gSubN i wi) [] := by
  refine ⟨PG.imp (pg_sub (pe_var hN hv hd hcd) hi set_list ha) fun v σ H Q ⟨Γ, AV, d, Qv, R, r, h, k⟩ => ?_⟩
  obtain ⟨ds0, e0, h⟩ := onI_of h
  obtain ⟨a, vs0, e1, _, _⟩ := R.its e0
  refine ⟨.ref a, e1, Γ, AV, _, R, h, fun x fl Γ1 u H1 q p => ?_⟩
  obtain ⟨n, e2, q2⟩ := isI_of q
  obtain ⟨ds, e3, q3⟩ := onI_of q2
  obtain ⟨j, e4, q4⟩ := onN_of q3
  obtain ⟨R1, ru⟩ := p.rel R
  subst e2
  obtain ⟨a', vs, f1, f2, f3⟩ := R1.its e3
  rw [e1] at f1; cases f1
  have t := p.t R
  refine ⟨a, vs, n, j, rfl, ru, f2, by rw [← f3.length]; exact e4, ?_⟩
  exact k _ _ _ q4 (t.trans (R1.wr e3 e1 f2 (Reps.set j f3 (t.rep r)))).g (fun _ _ => rfl) rfl

/-- x.append(e) -/
def wApp (i : Nat) (w : WE) : WE := fun Γ Q => onI (gAt Γ i).its fun _ => w Γ fun d _ Γ1 => onI (gAt Γ1 i).its fun ds => ds.length < LN ∧ Q .non false (gWr Γ1 i (ds ++ [d]))
theorem tyL {K : PySem.W.Frag} {H : Hp} {a : Addr} {vs : List V} (e : H a = some (.lst vs)) : tyV K "list" (.ref a) H := .inl ⟨rfl, vs, SqL.of e⟩
theorem ve_app {i : Nat} {w : WE} {x : Str} {p : Pos} (he : VE X C e w) (hN : X.N[i]? = some x := by rfl) (hv : Vis X.env.scope x := by first | exact Or.inl rfl | exact Or.inr (Or.inl rfl) | exact Or.inr (Or.inr rfl)) (hd : (x == ("__debug__" : Str)) = false := by decide)
    (hcd : (x == ("__classdict__" : Str)) = false := by decide) (hbase : attributeBase (.Name x p) "append" X.env (eval (.Name x p) X.env) = eval (.Name x p) X.env := by rfl)
    (hfew : ((backTo cpos (starEach [e] X.env)).all (fun x => !x.1) && (backToKw cpos (keywordEach [] X.env)).all (fun x => x.1.isSome)
      && decide ([e].length + ([] : List Keyword).length + (if ([] : List Keyword).isEmpty then 0 else 1) < 30)) = true := by rfl)
    (hline : (apos.endLine == cpos.line) = true := by rfl) (hs : starEach [e] X.env = (false, eval e X.env) :: starEach [] X.env := by rfl) (hplain : (backTo cpos (starEach [] X.env)).any (·.1) = false := by rfl) :
    VE X C (.Call (.Attribute (.Name x p) "append" apos) [e] [] cpos) (wApp i w) := by
  refine PE.imp (pe_bm PySem.F.plainAttrs_list PySem.F.slot_list_append PySem.F.type_list_append mt_append (pe_var hN hv hd hcd) (pa_cons he pa_nil hs) hbase hfew hline hs hplain) fun σ H Q ⟨Γ, AV, Qv, R, h, k⟩ => ?_
  obtain ⟨ds0, e0, h⟩ := onI_of h
  obtain ⟨a, vs0, e1, e2, _⟩ := R.its e0
  refine ⟨.ref a, e1, tyL e2, Γ, AV, _, R, h, fun d fl Γ1 u H1 q p => ?_⟩
  obtain ⟨ds, e3, hz, q⟩ := onI_of q
  obtain ⟨R1, ru⟩ := p.rel R
  obtain ⟨a', vs, f1, f2, f3⟩ := R1.its e3
  rw [e1] at f1; cases f1
  refine ⟨a, vs, u, rfl, rfl, f2, by rw [← f3.length]; exact LN_lt hz, ?_⟩
  exact k _ _ _ _ _ q (((p.t R).trans (R1.wr e3 e1 f2 (Reps.append f3 (Reps.one ru)))).e rfl)
/-- x.extend(e), e a list -/
def wExt (i : Nat) (w : WO) : WE := fun Γ Q => onI (gAt Γ i).its fun _ => w Γ fun a Γ1 => match argD Γ1 a with
  | some (.lst es) => onI (gAt Γ1 i).its fun ds => ds.length + es.length ≤ LN ∧ Q .non false (gWr Γ1 i (ds ++ es))
  | _ => False
theorem ve_ext {i : Nat} {w : WO} {x : Str} {p : Pos} (he : VO X C e w) (hN : X.N[i]? = some x := by rfl) (hv : Vis X.env.scope x := by first | exact Or.inl rfl | exact Or.inr (Or.inl rfl) | exact Or.inr (Or.inr rfl)) (hd : (x == ("__debug__" : Str)) = false := by decide)
    (hcd : (x == ("__classdict__" : Str)) = false := by decide) (hbase : attributeBase (.Name x p) "extend" X.env (eval (.Name x p) X.env) = eval (.Name x p) X.env := by rfl)
    (hfew : ((backTo cpos (starEach [e] X.env)).all (fun x => !x.1) && (backToKw cpos (keywordEach [] X.env)).all (fun x => x.1.isSome)
      && decide ([e].length + ([] : List Keyword).length + (if ([] : List Keyword).isEmpty then 0 else 1) < 30)) = true := by rfl)
    (hline : (apos.endLine == cpos.line) = true := by rfl) (hs : starEach [e] X.env = (false, eval e X.env) :: starEach [] X.env := by rfl) (hplain : (backTo cpos (starEach [] X.env)).any (·.1) = false := by rfl) :
    VE X C (.Call (.Attribute (.Name x p) "extend" apos) [e] [] cpos) (wExt i w) := by
  refine PE.imp (pe_bm PySem.F.plainAttrs_list PySem.F.slot_list_extend PySem.F.type_list_extend mt_extend (pe_var hN hv hd hcd) (pa_cons he pa_nil hs) hbase hfew hline hs hplain) fun σ H Q ⟨Γ, AV, Qv, R, h, k⟩ => ?_
  obtain ⟨ds0, e0, h⟩ := onI_of h
  obtain ⟨a, vs0, e1, e2, _⟩ := R.its e0
  refine ⟨.ref a, e1, tyL e2, Γ, AV, _, R, h, fun arg Γ1 u H1 q p r => ?_⟩
  cases z : argD Γ1 arg with
  | none => simp only [z] at q
  | some d =>
    cases d <;> simp only [z] at q
    obtain ⟨ds, e3, hz, q⟩ := onI_of q
    obtain ⟨b, us, rfl, g1, g2⟩ := p.rel.argT r z
    obtain ⟨a', vs, f1, f2, f3⟩ := p.rel.its e3
    rw [e1] at f1; cases f1
    refine ⟨a, b, vs, us, rfl, rfl, f2, g1, by rw [← f3.length, ← g2.length]; exact LN_le hz, ?_⟩
    exact k _ _ _ _ _ q ((p.trans (p.rel.wr e3 e1 f2 (Reps.append f3 g2))).e rfl)
/-- x.pop() -/
def wPop (i : Nat) : WE := fun Γ Q => onI (gAt Γ i).its fun ds => optI (ds[ds.length - 1]?) fun d _ => Q d false (gWr Γ i ds.dropLast)
theorem Reps.dropLast {K : PySem.W.Frag} {A : Addr → Prop} {H : Hp} {ds : List D} {vs : List V} (r : Reps K A H ds vs) : Reps K A H ds.dropLast vs.dropLast := by
  rw [List.dropLast_eq_take, List.dropLast_eq_take, r.length]
  exact Reps.take _ r
theorem ve_pop {i : Nat} {x : Str} {p : Pos} (hN : X.N[i]? = some x := by rfl) (hv : Vis X.env.scope x := by first | exact Or.inl rfl | exact Or.inr (Or.inl rfl) | exact Or.inr (Or.inr rfl)) (hd : (x == ("__debug__" : Str)) = false := by decide)
    (hcd : (x == ("__classdict__" : Str)) = false := by decide) (hbase : attributeBase (.Name x p) "pop" X.env (eval (.Name x p) X.env) = eval (.Name x p) X.env := by rfl) (hline : (apos.endLine == cpos.line) = true := by rfl) :
    VE X C (.Call (.Attribute (.Name x p) "pop" apos) [] [] cpos) (wPop i) := by
  refine PE.imp (pe_bm0 PySem.F.plainAttrs_list PySem.F.slot_list_pop PySem.F.type_list_pop mt_pop (pe_var hN hv hd hcd) hbase hline) fun σ H Q ⟨Γ, AV, Qv, R, h, k⟩ => ?_
  obtain ⟨ds, e0, h⟩ := onI_of h
  obtain ⟨d, e3, h⟩ := optI_of h
  obtain ⟨a, vs, e1, e2, r⟩ := R.its e0
  obtain ⟨v, e4, rv⟩ := r.get e3
  rw [r.length] at e4
  refine ⟨.ref a, e1, tyL e2, a, vs, v, rfl, rfl, e2, e4, ?_⟩
  have t := R.wr e0 e1 e2 r.dropLast
  exact k _ _ _ _ _ h (t.e (t.rep rv))

/-! ### several names at once -/
abbrev WF := G → (List (D × Bool) → G → Prop) → Prop
def FR (K : PySem.W.Frag) (A : Addr → Prop) (H : Hp) : List (D × Bool) → List V → List Addr → Prop
  | [], vs, L => vs = [] ∧ L = []
  | (d, false) :: as, vs, L => ∃ v r, vs = v :: r ∧ Rep K A H d v ∧ FR K A H as r L
  | (d, true) :: as, vs, L => ∃ a r L' ds us, vs = .ref a :: r ∧ L = a :: L' ∧ d = .lst ds ∧ H a = some (.lst us) ∧ Reps K A H ds us ∧ FR K A H as r L'
theorem FR.anti {K : PySem.W.Frag} {A A' : Addr → Prop} {H : Hp} (h : ∀ b, A' b → A b) : ∀ {as : List (D × Bool)} {vs : List V} {L : List Addr}, FR K A H as vs L → FR K A' H as vs L
  | [], _, _, q => q
  | (d, false) :: as, vs, L, q => by
    obtain ⟨v, r, e, q1, q2⟩ := q
    exact ⟨v, r, e, Rep.anti h d v q1, FR.anti h q2⟩
  | (d, true) :: as, vs, L, q => by
    obtain ⟨a, r, L', ds, us, e1, e2, e3, e4, q1, q2⟩ := q
    exact ⟨a, r, L', ds, us, e1, e2, e3, e4, Reps.anti h ds us q1, FR.anti h q2⟩
structure PostF (K : PySem.W.Frag) (C : Act) (AV : Addr → Prop) (Γ : G) (σ : L2.St) (H : Hp) (Γ' : G) (H' : Hp) (as : List (D × Bool)) (vs : List V) (L : List Addr) : Prop where
  step : Step (Acc Γ σ) H H'
  shr : ∀ (i : Nat) s, Γ'[i]? = some s → s.isA = true → ∃ s0, Γ[i]? = some s0 ∧ s0.isA = true
  new : ∀ a ∈ L, H a = none
  nd : L.Nodup
  rel : Rel K C (fun b => AV b ∨ b ∈ L) Γ' σ H'
  fr : FR K (AvA (fun b => AV b ∨ b ∈ L) Γ' σ) H' as vs L
def lfa (K : PySem.W.Frag) (C : Act) (w : WF) : TA := fun σ H Q => ∃ Γ AV Qv, Rel K C AV Γ σ H ∧ w Γ Qv ∧ ∀ as Γ' vs H' L, Qv as Γ' → PostF K C AV Γ σ H Γ' H' as vs L → Q vs H'
def VF (X : Cx) (C : Act) (es : List Expr) (w : WF) : Prop := PA X es (lfa X.K C w)
def fNil : WF := fun Γ Q => Q [] Γ
def fCons (w : WE) (ws : WF) : WF := fun Γ Q => w Γ fun d fl Γ1 => ws Γ1 fun as Γ2 => Q ((d, fl) :: as) Γ2
theorem vf_nil : VF X C [] fNil := PA.imp pa_nil fun σ H Q ⟨Γ, AV, Qv, R, h, k⟩ =>
  k _ _ _ _ [] h (PostF.mk Step.refl shr_refl (fun _ z => nomatch z) List.nodup_nil (R.less (fun a (z : AV a ∨ a ∈ []) => z.elim id fun z => nomatch z) (fun a z => Or.inl (R.avs a z))) ⟨rfl, rfl⟩)
theorem vf_cons {w : WE} {ws : WF} (ha : VE X C e w) (hr : VF X C es ws) (hs : starEach (e :: es) X.env = (false, eval e X.env) :: starEach es X.env := by rfl) : VF X C (e :: es) (fCons w ws) := by
  refine PA.imp (pa_cons ha hr hs) fun σ H Q ⟨Γ, AV, Qv, R, h, k⟩ => ⟨Γ, AV, _, R, h, fun d fl Γ1 v H1 q p => ?_⟩
  have pt := p.t R
  cases fl with
  | false =>
    obtain ⟨R1, r1⟩ := p.res
    refine ⟨Γ1, AV, _, R1, q, fun as Γ2 vs H2 L q2 p2 => k _ _ _ _ L q2 ⟨pt.step.trans p2.step fun b _ z => acc_sub pt.shr z, fun i s e z => ?_, fun a z => none_of_there pt.step.there (p2.new a z), p2.nd, p2.rel, v, vs, rfl, ?_, p2.fr⟩⟩
    · obtain ⟨s0, e0, z0⟩ := p2.shr i s e z
      exact pt.shr i s0 e0 z0
    · have r2 := Rep.step p2.step (fun b (z : Acc Γ1 σ b) => (Or.inl (Or.inr z) : AvA AV Γ1 σ b ∨ H1 b = none)) d v (Rep.fresh d v r1)
      refine Rep.anti (fun b z => ?_) d v r2
      rcases z with (z | z) | z
      · exact .inl (.inl z)
      · exact .inr (p2.new b z)
      · exact .inl (.inr (acc_sub p2.shr z))
  | true =>
    obtain ⟨a, us, ds, rfl, rfl, hn, R1, ea, r1⟩ := p.res
    have hna : ¬ AvA AV Γ σ a := fun z => R.avaT z hn
    refine ⟨Γ1, _, _, R1, q, fun as Γ2 vs H2 L q2 p2 => ?_⟩
    have hna1 : ¬ Acc Γ1 σ a := fun z => hna (.inr (acc_sub pt.shr z))
    have haL : a ∉ L := fun z => by rw [p2.new a z] at ea; cases ea
    have e2 : (fun b => (AV b ∨ b = a) ∨ b ∈ L) = (fun b => AV b ∨ b ∈ a :: L) := by
      funext b
      apply propext
      simp only [List.mem_cons]
      exact ⟨fun z => by rcases z with (z | z) | z; exact .inl z; exact .inr (.inl z); exact .inr (.inr z), fun z => by rcases z with z | z | z; exact .inl (.inl z); exact .inl (.inr z); exact .inr z⟩
    have p2r := p2.rel
    have p2f := p2.fr
    rw [e2] at p2r p2f
    refine k _ _ _ _ (a :: L) q2 ⟨pt.step.trans p2.step fun b _ z => acc_sub pt.shr z, fun i s e z => ?_, fun b z => ?_, List.nodup_cons.mpr ⟨haL, p2.nd⟩, p2r, a, vs, L, ds, us, rfl, rfl, rfl, p2.step.keep a _ ea hna1, ?_, p2f⟩
    · obtain ⟨s0, e0, z0⟩ := p2.shr i s e z
      exact pt.shr i s0 e0 z0
    · rcases List.mem_cons.mp z with z | z
      · rw [z]; exact hn
      · exact none_of_there pt.step.there (p2.new b z)
    · have r2 := Reps.step p2.step (fun b (z : Acc Γ1 σ b) => (Or.inl (Or.inr z) : AvA (fun b => AV b ∨ b = a) Γ1 σ b ∨ H1 b = none)) ds us (Reps.fresh ds us r1)
      refine Reps.anti (fun b z => ?_) ds us r2
      rcases z with (z | z) | z
      · exact .inl (.inl (.inl z))
      · rcases List.mem_cons.mp z with z | z
        · exact .inl (.inl (.inr z))
        · exact .inr (p2.new b z)
      · exact .inl (.inr (acc_sub p2.shr z))
/-- the names' slots get their values -/
def gPuts : List Nat → List (D × Bool) → G → (G → Prop) → Prop
  | [], [], Γ, k => k Γ
  | i :: is, (d, fl) :: as, Γ, k => gPut Γ i (slotOf fl d) fun Γ' => gPuts is as Γ' k
  | _, _, _, _ => False
def sets : List Nat → List V → L2.St → L2.St
  | i :: is, v :: vs, σ => sets is vs (σ.set i (some v))
  | _, _, σ => σ
theorem Rel.puts {K : PySem.W.Frag} {AV : Addr → Prop} : ∀ {is : List Nat} {as : List (D × Bool)} {vs : List V} {L : List Addr} {Γ : G} {σ : L2.St} {H : Hp} {k : G → Prop},
    Rel K C (fun b => AV b ∨ b ∈ L) Γ σ H → (∀ b, C.AV b → AV b) → FR K (AvA (fun b => AV b ∨ b ∈ L) Γ σ) H as vs L → L.Nodup → (∀ a ∈ L, C.Hs a = none ∧ ¬ AV a ∧ ¬ Acc Γ σ a) → gPuts is as Γ k →
    ∃ Γ', k Γ' ∧ Rel K C AV Γ' (sets is vs σ) H ∧ (∀ b, Acc Γ' (sets is vs σ) b → Acc Γ σ b ∨ b ∈ L) ∧ vs.length = is.length
  | [], [], vs, L, Γ, σ, H, k, R, hC, f, nd, hL, h => by
    obtain ⟨rfl, rfl⟩ := f
    exact ⟨Γ, h, R.less (fun a z => .inl z) hC, fun b z => .inl z, rfl⟩
  | i :: is, (d, false) :: as, vs, L, Γ, σ, H, k, R, hC, f, nd, hL, h => by
    obtain ⟨v, r, rfl, q1, q2⟩ := f
    obtain ⟨n, h⟩ := gPut_of h
    have p := R.put n q1
    have sub : ∀ b, Acc (Γ.set i (.sh d)) (σ.set i (some v)) b → Acc Γ σ b := p.acc
    obtain ⟨Γ', k1, k2, k3, k4⟩ := Rel.puts p.rel hC (FR.anti (fun b z => z.elim .inl fun z => .inr (sub b z)) q2) nd (fun a z => ⟨(hL a z).1, (hL a z).2.1, fun y => (hL a z).2.2 (sub a y)⟩) h
    exact ⟨Γ', k1, k2, fun b z => (k3 b z).elim (fun y => .inl (sub b y)) .inr, by simp [k4]⟩
  | i :: is, (d, true) :: as, vs, L, Γ, σ, H, k, R, hC, f, nd, hL, h => by
    obtain ⟨a, r, L', ds, us, rfl, rfl, rfl, e4, q1, q2⟩ := f
    obtain ⟨n, h⟩ := gPut_of h
    obtain ⟨ha, nd'⟩ := List.nodup_cons.mp nd
    obtain ⟨x1, x2, x3⟩ := hL a List.mem_cons_self
    have e2 : (fun b => AV b ∨ b ∈ a :: L') = (fun b => (AV b ∨ b ∈ L') ∨ b = a) := by
      funext b
      apply propext
      simp only [List.mem_cons]
      exact ⟨fun z => by rcases z with z | z | z; exact .inl (.inl z); exact .inr z; exact .inl (.inr z), fun z => by rcases z with (z | z) | z; exact .inl z; exact .inr (.inr z); exact .inr (.inl z)⟩
    rw [e2] at R q1 q2
    obtain ⟨R2, sub⟩ := R.putA (AV := fun b => AV b ∨ b ∈ L') (fun b z => .inl (hC b z)) n x1 (fun z => z.elim x2 ha) x3 e4 q1
    have sub2 : ∀ b, AvA (fun b => AV b ∨ b ∈ L') (Γ.set i (.ac ds)) (σ.set i (some (.ref a))) b → AvA (fun b => (AV b ∨ b ∈ L') ∨ b = a) Γ σ b := fun b z => by
      rcases z with z | z
      · exact .inl (.inl z)
      · rcases sub b z with z | z
        · exact .inr z
        · exact .inl (.inr z)
    obtain ⟨Γ', k1, k2, k3, k4⟩ := Rel.puts R2 hC (FR.anti sub2 q2) nd' (fun b z => by
      obtain ⟨y1, y2, y3⟩ := hL b (List.mem_cons_of_mem _ z)
      refine ⟨y1, y2, fun w => ?_⟩
      rcases sub b w with w | w
      · exact y3 w
      · exact ha (by rw [← w]; exact z)) h
    refine ⟨Γ', k1, k2, fun b z => ?_, by simp [k4]⟩
    rcases k3 b z with z | z
    · rcases sub b z with z | z
      · exact .inl z
      · exact .inr (by rw [z]; exact List.mem_cons_self)
    · exact .inr (List.mem_cons_of_mem _ z)
  | [], a :: as, _, _, _, _, _, _, _, _, _, _, _, h => h.elim
  | i :: is, [], _, _, _, _, _, _, _, _, _, _, _, h => h.elim
def sPar (is : List Nat) (w : WF) : WS := fun E Γ => w Γ fun as Γ' => gPuts is as Γ' E.nx
theorem par_core {K : PySem.W.Frag} {w : WF} {is : List Nat} {D : Ends} {σ : L2.St} {H : Hp} (h : ls K C (sPar is w) D σ H) : lfa K C w σ H fun vs H1 => vs.length = is.length ∧ ∀ H2, Step NoA H1 H2 → D.nx (sets is vs σ) H2 := by
  obtain ⟨Γ, AV, E, R, h, k1, _⟩ := h
  refine ⟨Γ, AV, _, R, h, fun as Γ' vs H' L q p => ?_⟩
  obtain ⟨Γ2, q2, R2, sub, hl⟩ := Rel.puts p.rel R.avs p.fr p.nd (fun a z => ⟨none_of_there R.there (p.new a z), fun y => R.avt a y (p.new a z), fun y => R.avaT (.inr (acc_sub p.shr y)) (p.new a z)⟩) q
  refine ⟨hl, fun H2 st => k1 _ _ _ q2 ⟨p.step.trans st fun _ _ z => z.elim, fun b z => ?_, R2.grow st⟩⟩
  rcases sub b z with z | z
  · exact .inl (acc_sub p.shr z)
  · exact .inr (p.new b z)
theorem v_par2 {i j : Nat} {x y : Str} {a b : Expr} {w : WF} {px py pt : Pos} {kt k2 pt2} (hc : X.calm = true) (hN : X.N.Nodup) (ha : VF X C [a, b] w) (hi : X.N[i]? = some x := by rfl) (hj : X.N[j]? = some y := by rfl) (hij : i ≠ j := by decide)
    (hx : X.env.scope.names.lookup x = some .local := by rfl) (hy : X.env.scope.names.lookup y = some .local := by rfl)
    (hw : swappedStores [.Tuple [.Name x px, .Name y py] kt pt] (.Tuple [a, b] k2 pt2) X.env = pure (some [x, y]) := by rfl)
    (hs : swapsWithSole [.Tuple [.Name x px, .Name y py] kt pt] (.Tuple [a, b] k2 pt2) pos.line X.env = pure false := by rfl) :
    VS X C (.Assign [.Tuple [.Name x px, .Name y py] kt pt] (.Tuple [a, b] k2 pt2) pos) (sPar [i, j] w) := by
  refine PS.imp (ps_par hc hN hi hj hij hx hy ha hw hs) fun D σ H h => ?_
  obtain ⟨Γ, AV, Qv, R, h, k⟩ := par_core h
  refine ⟨Γ, AV, Qv, R, h, fun as Γ' vs H' L q p => ?_⟩
  obtain ⟨hl, k⟩ := k as Γ' vs H' L q p
  match vs, hl with
  | [v, u], _ => exact ⟨v, u, rfl, k H' Step.refl⟩
theorem v_par3 {i j l : Nat} {x y z : Str} {a b c : Expr} {w : WF} {px py pz pt : Pos} {kt k2 pt2} (hc : X.calm = true) (hN : X.N.Nodup) (ha : VF X C [a, b, c] w) (hi : X.N[i]? = some x := by rfl) (hj : X.N[j]? = some y := by rfl) (hl : X.N[l]? = some z := by rfl) (hij : i ≠ j := by decide) (hil : i ≠ l := by decide) (hjl : j ≠ l := by decide)
    (hx : X.env.scope.names.lookup x = some .local := by rfl) (hy : X.env.scope.names.lookup y = some .local := by rfl) (hz : X.env.scope.names.lookup z = some .local := by rfl)
    (hw : swappedStores [.Tuple [.Name x px, .Name y py, .Name z pz] kt pt] (.Tuple [a, b, c] k2 pt2) X.env = pure (some [x, y, z]) := by rfl)
    (hs : swapsWithSole [.Tuple [.Name x px, .Name y py, .Name z pz] kt pt] (.Tuple [a, b, c] k2 pt2) pos.line X.env = pure false := by rfl) :
    VS X C (.Assign [.Tuple [.Name x px, .Name y py, .Name z pz] kt pt] (.Tuple [a, b, c] k2 pt2) pos) (sPar [i, j, l] w) := by
  refine PS.imp (ps_par3 hc hN hi hj hl hij hil hjl hx hy hz ha hw hs) fun D σ H h => ?_
  obtain ⟨Γ, AV, Qv, R, h, k⟩ := par_core h
  refine ⟨Γ, AV, Qv, R, h, fun as Γ' vs H' L q p => ?_⟩
  obtain ⟨hl, k⟩ := k as Γ' vs H' L q p
  match vs, hl with
  | [v, u, w], _ => exact ⟨v, u, w, rfl, k H' Step.refl⟩
/-- the tuple is built and taken apart -/
def gNames : List Nat → TGs
  | [] => gNil
  | i :: is => gCons (gName i) (gNames is)
theorem gNames_run : ∀ {is : List Nat} {vs : List V} {σ : L2.St} {H : Hp} {Q : L2.St → Hp → Prop}, vs.length = is.length → Q (sets is vs σ) H → gNames is vs σ H Q
  | [], [], _, _, _, _, q => ⟨rfl, q⟩
  | i :: is, v :: vs, σ, H, Q, h, q => ⟨v, vs, rfl, gNames_run (by simpa using h) q⟩
  | [], _ :: _, _, _, _, h, _ => by simp at h
  | _ :: _, [], _, _, _, h, _ => by simp at h
theorem v_parT {is : List Nat} {ts vs : List Expr} {w : WF} {pt pt2 : Pos} {kt k2} (hc : X.calm = true) (ha : VF X C vs w) (hg : PGs X ts (gNames is)) (hlen : is.length ≤ 100 := by decide)
    (hw : swappedStores [.Tuple ts kt pt] (.Tuple vs k2 pt2) X.env = pure none := by rfl)
    (hs : swapsWithSole [.Tuple ts kt pt] (.Tuple vs k2 pt2) pos.line X.env = pure false := by rfl) (h1 : (assignEach [.Tuple ts kt pt] X.env).map (·.2) = [assign (.Tuple ts kt pt) X.env] := by rfl)
    (hn : (assignEach ts X.env).length = is.length := by rfl) (hst : (assignEach ts X.env).findIdx? (·.1) = none := by rfl) : VS X C (.Assign [.Tuple ts kt pt] (.Tuple vs k2 pt2) pos) (sPar is w) := by
  refine PS.imp (ps_asg (pe_tup ha) (pg_tup hc hg hn hst) hs hw h1) fun D σ H h => ?_
  obtain ⟨Γ, AV, Qv, R, h, k⟩ := par_core h
  refine ⟨Γ, AV, Qv, R, h, fun as Γ' vs H' L q p => ?_⟩
  obtain ⟨hl, k⟩ := k as Γ' vs H' L q p
  exact ⟨by rw [hl]; exact LN_le (Nat.le_trans hlen (by decide)), fun T hT => ⟨T, vs, rfl, .inl (.inl upd_same), hl, gNames_run hl (k _ (Step.new hT))⟩⟩
end
end VL

-- VF
/-! VF: what is walked, for, comprehensions. -/
namespace VL
open PySem PySem.Spec L2

/-- the iterator J hands out the items, as long as only what stands at A changes -/
def Src (K : PySem.W.Frag) (J : It) (items : List D) (A : Addr → Prop) (H0 : Hp) : Prop :=
  ∃ Gd : Hp → Prop, Gd H0 ∧ (∀ (B : Addr → Prop) (H H' : Hp), Gd H → Step B H H' → (∀ b, B b → A b) → Gd H') ∧
    (∀ (i : Nat) H d, Gd H → items[i]? = some d → J.go i H ∧ ∀ x H', J.yld i H x H' → Step NoA H H' ∧ Rep K A H' d x) ∧
    (∀ H, Gd H → J.stop items.length H)
abbrev WI := G → (List D → G → Prop) → Prop
def lit (K : PySem.W.Frag) (C : Act) (w : WI) : TI := fun σ H R => ∃ Γ AV Qv, Rel K C AV Γ σ H ∧ w Γ Qv ∧ ∀ items Γ' J H', Qv items Γ' → PostT K C AV Γ σ H Γ' H' → Src K J items (fun b => AvA AV Γ' σ b ∨ H' b = none) H' → R J H'
def VI (X : Cx) (C : Act) (tg iter : Expr) (w : WI) : Prop := PI X tg iter (lit X.K C w)
theorem PI.imp {X : Cx} {tg iter : Expr} {t t' : TI} (h : PI X tg iter t) (f : ∀ σ H R, t' σ H R → t σ H R) : PI X tg iter t' := ⟨fun pins s σ H R I q => h.run pins s σ H R I (f σ H R q)⟩

/-- the turns of a for -/
def loopW (g : WG) (body : WS) (E : VEnds) : List D → G → Prop
  | [], Γ => E.nx Γ
  | d :: ds, Γ => g d Γ fun Γ2 => body { E with nx := loopW g body E ds, ct := loopW g body E ds, bk := E.nx } Γ2
def sFor (wi : WI) (g : WG) (body : WS) : WS := fun E Γ => wi Γ fun items Γ' => loopW g body E items Γ'

section
variable {X : Cx} {C : Act} {e a b c tg iter elt ie : Expr} {es : List Expr} {st : Stmt} {rest sts : List Stmt} {pos p2 apos cpos : Pos}
variable {K : PySem.W.Frag} {AV : Addr → Prop} {Γ Γ' Γ2 : G} {σ σ' σ2 : L2.St} {H H' H2 : Hp}
theorem drop_cons {α : Type} {l : List α} {i : Nat} {d : α} (e : l[i]? = some d) : l.drop i = d :: l.drop (i + 1) := by
  obtain ⟨h, e⟩ := List.getElem?_eq_some_iff.mp e
  rw [List.drop_eq_getElem_cons h, e]
theorem v_for {wi : WI} {g : WG} {body : List Stmt} {u : WS} {sl : List Nat} (hp : PassesOwn (model X.prog X.w) X.A X.env X.xe) (hc : X.calm = true) (hi : VI X C tg iter wi) (hg : VG X C tg g sl) (hb : VSs X C body u)
    (hs : ∀ x, foldedSetIterable iter X.env x = pure x := by intro _; rfl) : VS X C (.For tg iter body [] pos) (sFor wi g u) := by
  refine PS.imp (ps_for hp hc hi hg.run hb hs) fun D σ H ⟨Γ, AV, E, R, h, k1, k2, k3, k4⟩ => ⟨Γ, AV, _, R, h, fun items Γ1 J H1 q p src => ?_⟩
  obtain ⟨Gd, G0, Gs, Gi, Ge⟩ := src
  refine ⟨fun i m σ2 H2 => m = items.length - i ∧ i ≤ items.length ∧ ∃ Γ2, loopW g u E (items.drop i) Γ2 ∧ PostS X.K C AV Γ1 σ H1 Γ2 σ2 H2 ∧ Gd H2, ⟨_, rfl, Nat.zero_le _, Γ1, q, PostS.refl p.rel, G0⟩, ?_⟩
  rintro i m σ2 H2 ⟨rfl, hi, Γ2, h2, p2, G2⟩
  by_cases hlt : i < items.length
  · obtain ⟨d, ed⟩ : ∃ d, items[i]? = some d := ⟨_, List.getElem?_eq_getElem hlt⟩
    rw [drop_cons ed] at h2
    obtain ⟨go, yl⟩ := Gi i H2 d G2 ed
    refine .inr ⟨go, fun σ3 H3 => ∃ Γ3, loopW g u E (items.drop (i + 1)) Γ3 ∧ PostS X.K C AV Γ1 σ H1 Γ3 σ3 H3 ∧ Gd H3, fun σ3 H3 w => ⟨items.length - (i + 1), by omega, rfl, hlt, w⟩, fun x H' y => ?_⟩
    obtain ⟨sx, rx⟩ := yl x H' y
    have pg : PostS X.K C AV Γ1 σ H1 Γ2 σ2 H' := ⟨p2.step.trans sx fun _ _ z => z.elim, p2.grow, p2.rel.grow sx⟩
    have subA : ∀ b, AvA AV Γ2 σ2 b → AvA AV Γ1 σ b ∨ H1 b = none := fun b z => by
      rcases z with z | z
      · exact .inl (.inl z)
      · rcases p2.grow b z with z | z
        · exact .inl (.inr z)
        · exact .inr z
    have G' : Gd H' := Gs _ H2 H' G2 sx fun _ z => z.elim
    refine ⟨Γ2, AV, d, _, pg.rel, Rep.anti subA d x rx, h2, fun Γ3 σ3 H3 q3 p3 _ _ => ⟨Γ3, AV, _, p3.rel, q3, ?_, k2, ?_, ?_⟩⟩
    · intro Γ4 σ4 H4 q4 p4
      have p34 := p3.s.trans p4
      exact ⟨Γ4, q4, pg.trans p34, Gs _ H' H4 G' p34.step fun b z => subA b (.inr z)⟩
    · intro Γ4 σ4 H4 q4 p4
      exact k1 _ _ _ q4 (p.s.trans (pg.trans (p3.s.trans p4)))
    · intro Γ4 σ4 H4 q4 p4
      have p34 := p3.s.trans p4
      exact ⟨Γ4, q4, pg.trans p34, Gs _ H' H4 G' p34.step fun b z => subA b (.inr z)⟩
  · have e : i = items.length := by omega
    subst e
    rw [List.drop_length] at h2
    exact .inl ⟨Ge H2 G2, k1 _ _ _ h2 (p.s.trans p2)⟩

/-! ### comprehensions -/
def gWipe : List Nat → G → G
  | [], Γ => Γ
  | v :: vs, Γ => gSet (gWipe vs Γ) v .un
def gBack (Γ1 : G) : List Nat → G → G
  | [], Γ => Γ
  | v :: vs, Γ => gSet (gBack Γ1 vs Γ) v (gAt Γ1 v)
def plainAt (Γ : G) : List Nat → Bool
  | [] => true
  | v :: vs => !(gAt Γ v).isA && plainAt Γ vs
theorem plainAt_of {vs : List Nat} (h : plainAt Γ vs = true) {i : Nat} (hi : i ∈ vs) {s : Slot} (e : Γ[i]? = some s) : s.isA = false := by
  induction vs with
  | nil => cases hi
  | cons v vs ih =>
    simp only [plainAt, Bool.and_eq_true] at h
    rcases List.mem_cons.mp hi with rfl | hi
    · have := h.1
      rw [gAt_of e] at this
      simpa using this
    · exact ih h.2 hi
theorem gWipe_get {vs : List Nat} {i : Nat} {s : Slot} (e : (gWipe vs Γ)[i]? = some s) : (s = .un) ∨ (i ∉ vs ∧ Γ[i]? = some s) := by
  induction vs generalizing s with
  | nil => exact .inr ⟨by simp, e⟩
  | cons v vs ih =>
    rw [gWipe, gSet_eq] at e
    rcases getSet e with ⟨_, rfl, _⟩ | ⟨hn, e2⟩
    · exact .inl rfl
    · rcases ih e2 with h | ⟨h1, h2⟩
      · exact .inl h
      · exact .inr ⟨by simp only [List.mem_cons, not_or]; exact ⟨fun z => hn z.symm, h1⟩, h2⟩
theorem gWipe_out {vs : List Nat} {i : Nat} (h : i ∉ vs) : (gWipe vs Γ)[i]? = Γ[i]? := by
  induction vs with
  | nil => rfl
  | cons v vs ih =>
    simp only [List.mem_cons, not_or] at h
    rw [gWipe, gSet_eq, List.getElem?_set_ne (fun z => h.1 z.symm)]
    exact ih h.2
theorem gWipe_len {vs : List Nat} : (gWipe vs Γ).length = Γ.length := by
  induction vs with
  | nil => rfl
  | cons v vs ih => rw [gWipe, gSet_eq, List.length_set, ih]
theorem gBack_len {Γ1 : G} {vs : List Nat} : (gBack Γ1 vs Γ).length = Γ.length := by
  induction vs with
  | nil => rfl
  | cons v vs ih => rw [gBack, gSet_eq, List.length_set, ih]
theorem gBack_out {Γ1 : G} {vs : List Nat} {i : Nat} (h : i ∉ vs) : (gBack Γ1 vs Γ)[i]? = Γ[i]? := by
  induction vs with
  | nil => rfl
  | cons v vs ih =>
    simp only [List.mem_cons, not_or] at h
    rw [gBack, gSet_eq, List.getElem?_set_ne (fun z => h.1 z.symm)]
    exact ih h.2
theorem gBack_get {Γ1 : G} {vs : List Nat} {i : Nat} {s : Slot} (hl : Γ.length = Γ1.length) (e : (gBack Γ1 vs Γ)[i]? = some s) : (i ∈ vs ∧ Γ1[i]? = some s) ∨ (i ∉ vs ∧ Γ[i]? = some s) := by
  induction vs generalizing s with
  | nil => exact .inr ⟨by simp, e⟩
  | cons v vs ih =>
    rw [gBack, gSet_eq] at e
    rcases getSet e with ⟨rfl, rfl, hlt⟩ | ⟨hn, e2⟩
    · rw [gBack_len, hl] at hlt
      refine .inl ⟨List.mem_cons_self, ?_⟩
      have : ∃ s, Γ1[v]? = some s := ⟨_, List.getElem?_eq_getElem hlt⟩
      obtain ⟨s, es⟩ := this
      rw [gAt_of es]; exact es
    · rcases ih e2 with ⟨h1, h2⟩ | ⟨h1, h2⟩
      · exact .inl ⟨List.mem_cons_of_mem _ h1, h2⟩
      · exact .inr ⟨by simp only [List.mem_cons, not_or]; exact ⟨fun z => hn z.symm, h1⟩, h2⟩
/-- the slots vs are forgotten -/
theorem Rel.forget {vs : List Nat} (R : Rel K C AV Γ σ H) (h : plainAt Γ vs = true) : Rel K C AV (gWipe vs Γ) (wipe σ vs) H ∧ ∀ b, Acc (gWipe vs Γ) (wipe σ vs) b ↔ Acc Γ σ b := by
  have acc : ∀ b, Acc (gWipe vs Γ) (L2.wipe σ vs) b ↔ Acc Γ σ b := fun b => ⟨fun ⟨i, s, e, q, r⟩ => by
    rcases gWipe_get e with rfl | ⟨_, e2⟩
    · cases q
    · exact ⟨i, s, e2, q, (wipe_some r).1⟩, fun ⟨i, s, e, q, r⟩ => by
    have hi : i ∉ vs := fun z => by rw [plainAt_of h z e] at q; cases q
    exact ⟨i, s, by rw [gWipe_out hi]; exact e, q, by rw [wipe_out hi]; exact r⟩⟩
  have sub2 : ∀ b, AvA AV (gWipe vs Γ) (L2.wipe σ vs) b → AvA AV Γ σ b := fun b z => z.elim .inl fun z => .inr ((acc b).1 z)
  refine ⟨⟨R.avs, R.avt, fun i d e => ?_, fun i ds e => ?_, fun i ds e => ?_, fun i b hb => ?_, fun i j s t b h1 h2 h3 h4 h5 h6 => ?_, R.frame, R.there, by rw [gWipe_len, wipe_length]; exact R.len⟩, acc⟩
  · rcases gWipe_get e with z | ⟨hi, e2⟩
    · cases z
    · obtain ⟨v, e3, r⟩ := R.sh i d e2
      exact ⟨v, by rw [wipe_out hi]; exact e3, Rep.anti sub2 d v r⟩
  · rcases gWipe_get e with z | ⟨hi, e2⟩
    · cases z
    · obtain ⟨a, us, e3, e4, r, q⟩ := R.ac i ds e2
      exact ⟨a, us, by rw [wipe_out hi]; exact e3, e4, Reps.anti sub2 ds us r, q⟩
  · rcases gWipe_get e with z | ⟨hi, e2⟩
    · cases z
    · obtain ⟨a, us, e0, e3, e4, r⟩ := R.io i ds e2
      exact ⟨a, us, e0, by rw [wipe_out hi]; exact e3, e4, Reps.anti sub2 ds us r⟩
  · obtain ⟨es, e1, e2⟩ := R.ios i b hb
    have hi : i ∉ vs := fun z => by have := plainAt_of h z e1; cases this
    exact ⟨es, by rw [gWipe_out hi]; exact e1, by rw [wipe_out hi]; exact e2⟩
  · rcases gWipe_get h1 with rfl | ⟨n1, g1⟩
    · cases h2
    · rcases gWipe_get h3 with rfl | ⟨n3, g3⟩
      · cases h4
      · exact R.inj i j s t b g1 h2 g3 h4 (wipe_some h5).1 (wipe_some h6).1
/-- a list that is left alone is written -/
theorem Rel.wrAV {p : Addr} {xs ys : List V} (R : Rel K C AV Γ σ H) (hp : AV p) (e : H p = some (.lst xs)) (hn : C.Hs p = none) : Rel K C AV Γ σ (upd H p (.lst ys)) := by
  have st : Step (fun b => b = p) H (upd H p (.lst ys)) := Step.wr e rfl
  have one : ∀ b, b = p → AvA AV Γ σ b := fun b z => by rw [z]; exact .inl hp
  have nep : ∀ {a : Addr}, Acc Γ σ a → ¬ AV a → a ≠ p := fun _ hA z => hA (z ▸ hp)
  refine ⟨R.avs, fun b z => st.there b (R.avt b z), fun i d e1 => ?_, fun i ds e1 => ?_, fun i ds e1 => ?_, R.ios, R.inj, fun b o h1 h2 => ?_, fun b z => st.there b (R.there b z), R.len⟩
  · obtain ⟨v, e3, r⟩ := R.sh i d e1
    exact ⟨v, e3, Rep.step st one d v r⟩
  · obtain ⟨a, us, e3, e4, r, q1, q2⟩ := R.ac i ds e1
    exact ⟨a, us, e3, by rw [upd_ne (nep ⟨i, _, e1, rfl, e3⟩ q2)]; exact e4, Reps.step st one ds us r, q1, q2⟩
  · obtain ⟨a, us, e0, e3, e4, r⟩ := R.io i ds e1
    by_cases hap : a = p
    · subst hap
      exact absurd hn (C.iot i a e0)
    · exact ⟨a, us, e0, e3, by rw [upd_ne hap]; exact e4, Reps.step st one ds us r⟩
  · have hb : b ≠ p := fun z => by rw [z, hn] at h1; cases h1
    rw [upd_ne hb]
    exact R.frame b o h1 h2

/-- what was known ahead of the comprehension stands again behind it -/
theorem Rel.back {Γ1 : G} {vs : List Nat} (R : Rel K C AV Γ (wipe σ vs) H) (hl : Γ.length = Γ1.length) (hp : plainAt Γ1 vs = true) (h1 : ∀ (i : Nat) d, i ∈ vs → Γ1[i]? = some (.sh d) → ∃ v, σ[i]? = some (some v) ∧ Rep K (AvA AV Γ (wipe σ vs)) H d v) (hs : Γ1.length = σ.length)
    (hg : ∀ i, i ∈ vs → ∀ s, Γ[i]? = some s → s.isA = false) : Rel K C AV (gBack Γ1 vs Γ) σ H ∧ ∀ b, Acc (gBack Γ1 vs Γ) σ b ↔ Acc Γ (wipe σ vs) b := by
  have acc : ∀ b, Acc (gBack Γ1 vs Γ) σ b ↔ Acc Γ (wipe σ vs) b := fun b => ⟨fun ⟨i, s, e, q, r⟩ => by
    rcases gBack_get hl e with ⟨hi, e2⟩ | ⟨hi, e2⟩
    · rw [plainAt_of hp hi e2] at q; cases q
    · exact ⟨i, s, e2, q, by rw [wipe_out hi]; exact r⟩, fun ⟨i, s, e, q, r⟩ => by
    have hi : i ∉ vs := fun z => by rw [hg i z s e] at q; cases q
    exact ⟨i, s, by rw [gBack_out hi]; exact e, q, (wipe_some r).1⟩⟩
  have sub2 : ∀ b, AvA AV (gBack Γ1 vs Γ) σ b → AvA AV Γ (wipe σ vs) b := fun b z => z.elim .inl fun z => .inr ((acc b).1 z)
  refine ⟨⟨R.avs, R.avt, fun i d e => ?_, fun i ds e => ?_, fun i ds e => ?_, fun i b hb => ?_, fun i j s t b h1 h2 h3 h4 h5 h6 => ?_, R.frame, R.there, by rw [gBack_len, hl]; exact hs⟩, acc⟩
  · rcases gBack_get hl e with ⟨hi, e2⟩ | ⟨hi, e2⟩
    · obtain ⟨v, e3, r⟩ := h1 i d hi e2
      exact ⟨v, e3, Rep.anti sub2 d v r⟩
    · obtain ⟨v, e3, r⟩ := R.sh i d e2
      exact ⟨v, by rw [wipe_out hi] at e3; exact e3, Rep.anti sub2 d v r⟩
  · rcases gBack_get hl e with ⟨hi, e2⟩ | ⟨hi, e2⟩
    · have := plainAt_of hp hi e2; cases this
    · obtain ⟨a, us, e3, e4, r, q⟩ := R.ac i ds e2
      exact ⟨a, us, by rw [wipe_out hi] at e3; exact e3, e4, Reps.anti sub2 ds us r, q⟩
  · rcases gBack_get hl e with ⟨hi, e2⟩ | ⟨hi, e2⟩
    · have := plainAt_of hp hi e2; cases this
    · obtain ⟨a, us, e0, e3, e4, r⟩ := R.io i ds e2
      exact ⟨a, us, e0, by rw [wipe_out hi] at e3; exact e3, e4, Reps.anti sub2 ds us r⟩
  · obtain ⟨es, e1, e2⟩ := R.ios i b hb
    have hi : i ∉ vs := fun z => by have := hg i z _ e1; cases this
    exact ⟨es, by rw [gBack_out hi]; exact e1, by rw [wipe_out hi] at e2; exact e2⟩
  · rcases gBack_get hl h1 with ⟨hi, g1⟩ | ⟨n1, g1⟩
    · rw [plainAt_of hp hi g1] at h2; cases h2
    · rcases gBack_get hl h3 with ⟨hi, g3⟩ | ⟨n3, g3⟩
      · rw [plainAt_of hp hi g3] at h4; cases h4
      · exact R.inj i j s t b g1 h2 g3 h4 (by rw [wipe_out n1]; exact h5) (by rw [wipe_out n3]; exact h6)

/-- the tests of a comprehension -/
def VTs (X : Cx) (C : Act) (ifs : List Expr) (w : WT) : Prop := PTs X ifs (lt X.K C w)
theorem PTs.imp {ifs : List Expr} {t t' : TT} (h : PTs X ifs t) (f : ∀ σ H Q, t' σ H Q → t σ H Q) : PTs X ifs t' := by
  obtain ⟨run⟩ := h
  exact ⟨fun pins s σ H Q I q => run pins s σ H Q I (f σ H Q q)⟩
def tTrue : WT := fun Γ Q => Q true Γ
theorem vts_nil : VTs X C [] tTrue := PTs.imp pts_nil fun σ H Q ⟨Γ, AV, Qv, R, h, k⟩ => k _ _ _ h (PostT.refl R)
theorem vts_one {t : WT} (h : VT X C c t) : VTs X C [c] t := pts_one h

def lcGo (g : WG) (tt : WT) (te : WE) (vs : List Nat) (k : List D → G → Prop) : List D → List D → G → Prop
  | [], acc, Γ => k acc Γ
  | d :: ds, acc, Γ => g d Γ fun Γ2 => tt Γ2 fun b Γ3 => if b = true then te Γ3 fun y _ Γ4 => acc.length < LN ∧ plainAt Γ4 vs = true ∧ lcGo g tt te vs k ds (acc ++ [y]) (gWipe vs Γ4)
    else plainAt Γ3 vs = true ∧ lcGo g tt te vs k ds acc (gWipe vs Γ3)
def wLc (wi : WI) (g : WG) (tt : WT) (te : WE) (vs : List Nat) : WE := fun Γ Q => wi Γ fun items Γ1 => plainAt Γ1 vs = true ∧ lcGo g tt te vs (fun acc Γ2 => Q (.lst acc) true (gBack Γ1 vs Γ2)) items [] (gWipe vs Γ1)

theorem wipe_eq {vs sl : List Nat} (hsl : ∀ i ∈ sl, i ∈ vs) (h : ∀ i, i ∉ sl → σ'[i]? = (wipe σ vs)[i]?) (hl : σ'.length = (wipe σ vs).length) : wipe σ' vs = wipe σ vs := by
  apply List.ext_getElem?
  intro i
  by_cases hi : i ∈ vs
  · have key : ∀ (τ : L2.St) (l : List Nat), i ∈ l → (wipe τ l)[i]? = if i < τ.length then some none else none := fun τ l => by
      induction l with
      | nil => intro z; cases z
      | cons v l ih =>
        intro z
        unfold L2.wipe
        by_cases hv : v = i
        · subst hv
          by_cases hlt : v < τ.length
          · rw [List.getElem?_set_self (by rw [wipe_length]; exact hlt), if_pos hlt]
          · rw [List.getElem?_eq_none (by rw [List.length_set, wipe_length]; omega), if_neg hlt]
        · rw [List.getElem?_set_ne hv]
          rcases List.mem_cons.mp z with z | z
          · exact absurd z.symm hv
          · exact ih z
    rw [key σ' vs hi, key σ vs hi, hl, wipe_length]
  · rw [wipe_out hi, h i (fun z => hi (hsl i z))]

theorem lc_tLc {K : PySem.W.Frag} {wi : WI} {g : WG} {tt : WT} {te : WE} {vs sl : List Nat} (hsl : ∀ i ∈ sl, i ∈ vs) (σ : L2.St) (H : Hp) (Q : VK) (h : lf K C (wLc wi g tt te vs) σ H Q) :
    tLc (lit K C wi) (fun v σ H Q => lg K C g v σ H fun σ' H' => (∀ i, i ∉ sl → σ'[i]? = σ[i]?) → σ'.length = σ.length → Q σ' H') (lt K C tt) (lf K C te) vs σ H Q := by
  obtain ⟨Γ, AV, Qv, R, h, k⟩ := h
  refine ⟨Γ, AV, _, R, h, fun items Γ1 J H1 ⟨hp, q⟩ p src D hD => ?_⟩
  obtain ⟨Gd, G0, Gs, Gi, Ge⟩ := src
  have hDs : C.Hs D = none := none_of_there p.rel.there hD
  obtain ⟨Rw, aw⟩ := p.rel.forget (vs := vs) hp
  have R0 := Rw.new (o := .lst []) hD
  have sD : Step NoA H1 (upd H1 D (.lst [])) := Step.new hD
  refine ⟨fun i m H2 => m = items.length - i ∧ i ≤ items.length ∧ ∃ Γ2 acc us, lcGo g tt te vs (fun acc Γ2 => Qv (.lst acc) true (gBack Γ1 vs Γ2)) (items.drop i) acc Γ2 ∧ Rel K C (fun b => AV b ∨ b = D) Γ2 (wipe σ vs) H2 ∧
      Step (Acc Γ1 σ) H1 H2 ∧ (∀ (j : Nat) s, Γ2[j]? = some s → s.isA = true → ∃ s0, Γ1[j]? = some s0 ∧ s0.isA = true) ∧ (∀ j, j ∈ vs → ∀ s, Γ2[j]? = some s → s.isA = false) ∧ H2 D = some (.lst us) ∧ Reps K (AvA (fun b => AV b ∨ b = D) Γ2 (wipe σ vs)) H2 acc us ∧ Gd H2,
    ⟨_, rfl, Nat.zero_le _, gWipe vs Γ1, [], [], q, R0, Step.new hD, fun j s e z => ?_, fun j hj s e => ?_, upd_same, rfl, Gs _ _ _ G0 sD fun _ z => z.elim⟩, ?_⟩
  · rcases gWipe_get e with rfl | ⟨_, e2⟩
    · cases z
    · exact ⟨s, e2, z⟩
  · rcases gWipe_get e with rfl | ⟨hn, _⟩
    · rfl
    · exact absurd hj hn
  rintro i m H2 ⟨rfl, hi, Γ2, acc, us, h2, R2, st2, shr2, pl2, eD, racc, G2⟩
  have subA : ∀ b, AvA (fun b => AV b ∨ b = D) Γ2 (wipe σ vs) b → AvA AV Γ1 σ b ∨ H1 b = none := fun b z => by
    rcases z with (z | z) | ⟨j, s, e, q, r⟩
    · exact .inl (.inl z)
    · rw [z]; exact .inr hD
    · obtain ⟨s0, e0, q0⟩ := shr2 j s e q
      exact .inl (.inr ⟨j, s0, e0, q0, (wipe_some r).1⟩)
  by_cases hlt : i < items.length
  · obtain ⟨d, ed⟩ : ∃ d, items[i]? = some d := ⟨_, List.getElem?_eq_getElem hlt⟩
    rw [drop_cons ed] at h2
    obtain ⟨go, yl⟩ := Gi i H2 d G2 ed
    refine .inr ⟨go, fun H3 => ∃ Γ3 acc us, lcGo g tt te vs (fun acc Γ2 => Qv (.lst acc) true (gBack Γ1 vs Γ2)) (items.drop (i + 1)) acc Γ3 ∧ Rel K C (fun b => AV b ∨ b = D) Γ3 (wipe σ vs) H3 ∧
      Step (Acc Γ1 σ) H1 H3 ∧ (∀ (j : Nat) s, Γ3[j]? = some s → s.isA = true → ∃ s0, Γ1[j]? = some s0 ∧ s0.isA = true) ∧ (∀ j, j ∈ vs → ∀ s, Γ3[j]? = some s → s.isA = false) ∧ H3 D = some (.lst us) ∧ Reps K (AvA (fun b => AV b ∨ b = D) Γ3 (wipe σ vs)) H3 acc us ∧ Gd H3,
      fun H3 w => ⟨items.length - (i + 1), by omega, rfl, hlt, w⟩, fun x H' y => ?_⟩
    obtain ⟨sx, rx⟩ := yl x H' y
    have R' := R2.grow sx
    have eD' : H' D = some (.lst us) := sx.keep _ _ eD fun z => z
    have racc' := Reps.step (A := AvA (fun b => AV b ∨ b = D) Γ2 (wipe σ vs)) sx noA acc us racc
    have G' : Gd H' := Gs _ H2 H' G2 sx fun _ z => z.elim
    have st' : Step (Acc Γ1 σ) H1 H' := st2.trans sx fun _ _ z => z.elim
    refine ⟨Γ2, _, d, _, R', Rep.anti subA d x rx, h2, fun Γ3 σ3 H3 q3 p3 hk hl => ⟨wipe_eq hsl hk hl, ?_⟩⟩
    have hw : wipe σ3 vs = wipe σ vs := wipe_eq hsl hk hl
    have sub3 : ∀ b, AvA (fun b => AV b ∨ b = D) Γ3 σ3 b → AvA (fun b => AV b ∨ b = D) Γ2 (wipe σ vs) b := fun b z => z.elim .inl fun z => .inr (p3.acc b z)
    have accD : ¬ Acc Γ2 (wipe σ vs) D := fun ⟨j, s, e, q, r⟩ => by
      obtain ⟨s0, e0, q0⟩ := shr2 j s e q
      exact p.rel.avaT (.inr ⟨j, s0, e0, q0, (wipe_some r).1⟩) hD
    have eD3 : H3 D = some (.lst us) := p3.step.keep _ _ eD' accD
    have racc3 : Reps K (AvA (fun b => AV b ∨ b = D) Γ3 σ3) H3 acc us := Reps.anti sub3 _ _ (Reps.step p3.step (fun _ z => .inr z) _ _ racc')
    have st3 : Step (Acc Γ1 σ) H1 H3 := st'.trans p3.step fun b _ z => by
      obtain ⟨j, s, e, q, r⟩ := z
      obtain ⟨s0, e0, q0⟩ := shr2 j s e q
      exact ⟨j, s0, e0, q0, (wipe_some r).1⟩
    have acc31 : ∀ b, Acc Γ3 σ3 b → Acc Γ1 σ b := fun b z => by
      obtain ⟨j, s, e, q, r⟩ := p3.acc b z
      obtain ⟨s0, e0, q0⟩ := shr2 j s e q
      exact ⟨j, s0, e0, q0, (wipe_some r).1⟩
    have shr3 : ∀ (j : Nat) s, Γ3[j]? = some s → s.isA = true → ∃ s0, Γ1[j]? = some s0 ∧ s0.isA = true := fun j s e q => by
      obtain ⟨s0, e0, q0⟩ := p3.shr j s e q
      exact shr2 j s0 e0 q0
    have G3 : Gd H3 := Gs _ H' H3 G' p3.step fun b z => subA b (.inr z)
    refine ⟨Γ3, _, _, p3.rel, q3, fun b Γ4 H4 q4 p4 => ?_⟩
    have eD4 : H4 D = some (.lst us) := p4.step.keep _ _ eD3 fun z => accD (p3.acc _ z)
    have racc4 := p4.reps racc3
    have G4 : Gd H4 := Gs _ H3 H4 G3 p4.step fun b z => .inl (.inr (acc31 b z))
    have st4 : Step (Acc Γ1 σ) H1 H4 := st3.trans p4.step fun b _ z => acc31 b z
    have shr4 : ∀ (j : Nat) s, Γ4[j]? = some s → s.isA = true → ∃ s0, Γ1[j]? = some s0 ∧ s0.isA = true := fun j s e q => by
      obtain ⟨s0, e0, q0⟩ := p4.shr j s e q
      exact shr3 j s0 e0 q0
    -- the end of a turn
    have fin : ∀ {Γ5 : G} {H5 : Hp} {acc' us'}, plainAt Γ5 vs = true → lcGo g tt te vs (fun acc Γ2 => Qv (.lst acc) true (gBack Γ1 vs Γ2)) (items.drop (i + 1)) acc' (gWipe vs Γ5) → Rel K C (fun b => AV b ∨ b = D) Γ5 σ3 H5 → Step (Acc Γ1 σ) H1 H5 →
        (∀ (j : Nat) s, Γ5[j]? = some s → s.isA = true → ∃ s0, Γ1[j]? = some s0 ∧ s0.isA = true) → H5 D = some (.lst us') → Reps K (AvA (fun b => AV b ∨ b = D) Γ5 σ3) H5 acc' us' → Gd H5 → ∃ Γ3 acc us, lcGo g tt te vs (fun acc Γ2 => Qv (.lst acc) true (gBack Γ1 vs Γ2)) (items.drop (i + 1)) acc Γ3 ∧ Rel K C (fun b => AV b ∨ b = D) Γ3 (wipe σ vs) H5 ∧
        Step (Acc Γ1 σ) H1 H5 ∧ (∀ (j : Nat) s, Γ3[j]? = some s → s.isA = true → ∃ s0, Γ1[j]? = some s0 ∧ s0.isA = true) ∧ (∀ j, j ∈ vs → ∀ s, Γ3[j]? = some s → s.isA = false) ∧ H5 D = some (.lst us) ∧ Reps K (AvA (fun b => AV b ∨ b = D) Γ3 (wipe σ vs)) H5 acc us ∧ Gd H5 :=
      fun {Γ5 H5 acc' us'} hpl hgo R5 s5 sh5 e5 r5 g5 => by
        obtain ⟨R6, a6⟩ := R5.forget (vs := vs) hpl
        rw [hw] at R6 a6
        refine ⟨gWipe vs Γ5, acc', us', hgo, R6, s5, fun j s e q => ?_, fun j hj s e => ?_, e5, Reps.anti (fun b z => z.elim .inl fun z => .inr ((a6 b).1 z)) _ _ r5, g5⟩
        · rcases gWipe_get e with rfl | ⟨_, e2⟩
          · cases q
          · exact sh5 j s e2 q
        · rcases gWipe_get e with rfl | ⟨hn, _⟩
          · rfl
          · exact absurd hj hn
    cases b with
    | false =>
      simp only [Bool.false_eq_true, if_false] at q4 ⊢
      exact fin q4.1 q4.2 p4.rel st4 shr4 eD4 racc4 G4
    | true =>
      simp only [if_true] at q4 ⊢
      refine ⟨Γ4, _, _, p4.rel, q4, fun y fl Γ5 v H5 ⟨hz, hpl, hgo⟩ p5 => ?_⟩
      obtain ⟨R5, r5⟩ := p5.rel p4.rel
      have t5 := p5.t p4.rel
      have acc41 : ∀ b, Acc Γ4 σ3 b → Acc Γ1 σ b := fun b z => acc31 b (acc_sub p4.shr z)
      have eD5 : H5 D = some (.lst us) := t5.step.keep _ _ eD4 fun z => accD (p3.acc _ (acc_sub p4.shr z))
      have racc5 := t5.reps racc4
      have wD : Step (fun b => b = D) H5 (upd H5 D (.lst (us ++ [v]))) := Step.wr eD5 rfl
      refine ⟨us, eD5, by rw [← racc5.length]; exact LN_lt hz, ?_⟩
      refine fin hpl hgo (R5.wrAV (.inr rfl) eD5 hDs) ?_ (fun j s e q => ?_) upd_same (Reps.step wD (fun b z => .inl (.inr z)) _ _ (Reps.append racc5 (Reps.one r5))) (Gs _ H5 _ (Gs _ H4 H5 G4 t5.step fun b z => .inl (.inr (acc41 b z))) wD fun b z => by rw [z]; exact .inr hD)
      · have s5 : Step (Acc Γ1 σ) H1 H5 := st4.trans t5.step fun b _ z => acc41 b z
        exact s5.trans wD fun b hb z => by rw [z] at hb; exact absurd hD hb
      · obtain ⟨s0, e0, q0⟩ := t5.shr j s e q
        exact shr4 j s0 e0 q0
  · have e : i = items.length := by omega
    subst e
    rw [List.drop_length] at h2
    refine .inl ⟨Ge H2 G2, k _ _ _ _ _ h2 ?_⟩
    have hl : Γ2.length = Γ1.length := by rw [R2.len, wipe_length, p.rel.len]
    have sA : ∀ b, AvA (fun b => AV b ∨ b = D) Γ2 (wipe σ vs) b → AvA AV Γ1 σ b ∨ H1 b = none := subA
    obtain ⟨R3, a3⟩ := R2.back hl hp (fun j d hj ej => by
      obtain ⟨v, e3, r⟩ := p.rel.sh j d ej
      exact ⟨v, e3, Rep.anti sA d v (Rep.step st2 (fun b z => .inl (.inr z)) d v (Rep.fresh d v r))⟩) p.rel.len pl2
    have shrB : ∀ (j : Nat) s, (gBack Γ1 vs Γ2)[j]? = some s → s.isA = true → ∃ s0, Γ1[j]? = some s0 ∧ s0.isA = true := fun j s e q => by
      rcases gBack_get hl e with ⟨hi, e2⟩ | ⟨hi, e2⟩
      · exact ⟨s, e2, q⟩
      · exact shr2 j s e2 q
    refine ⟨p.step.trans st2 fun b _ z => acc_sub p.shr z, fun j s e q => ?_, D, us, acc, rfl, rfl, none_of_there p.step.there hD, R3, eD, Reps.anti (fun b z => z.elim .inl fun z => .inr ((a3 b).1 z)) _ _ racc⟩
    obtain ⟨s0, e0, q0⟩ := shrB j s e q
    exact p.shr j s0 e0 q0
theorem ve_lc {scope : Scope} {own : List (Str × Nat)} {ifs : List Expr} {wi : WI} {g : WG} {tt : WT} {te : WE} {sl : List Nat} (hc : X.calm = true) (hN : X.N.Nodup) (ok : BlkOk X.N X.env.scope scope own) (hi : VI X C tg iter wi)
    (hg : ∀ (s : Shared) (H : Hp) (Ca : Addr) (cl : List (Str × Addr)) (fp : List Addr), VG (X.blk s H scope (compEnvC scope cl Ca X.env) fp) C tg g sl) (ht : ∀ (s : Shared) (H : Hp) (Ca : Addr) (cl : List (Str × Addr)) (fp : List Addr), VTs (X.blk s H scope (compEnvC scope cl Ca X.env) fp) C ifs tt)
    (he : ∀ (s : Shared) (H : Hp) (Ca : Addr) (cl : List (Str × Addr)) (fp : List Addr), VE (X.blk s H scope (compEnvC scope cl Ca X.env) fp) C elt te) (hsl : ∀ i ∈ sl, i ∈ own.map (·.2) := by decide) (hs : ∀ x, foldedSetIterable iter X.env x = pure x := by intro _; rfl) :
    VE X C (.ListComp elt [⟨tg, iter, ifs, 0⟩] scope pos) (wLc wi g tt te (own.map (·.2))) :=
  PE.imp (pe_lc (tt := lt X.K C tt) (te := lf X.K C te) (g := fun v σ H Q => lg X.K C g v σ H fun σ' H' => (∀ i, i ∉ sl → σ'[i]? = σ[i]?) → σ'.length = σ.length → Q σ' H') hc hN hi ok (fun s H Ca cl fp => (hg s H Ca cl fp).run) ht he hs) (lc_tLc hsl)
/-- name = [..] on one line, the name a local -/
theorem v_setLc {i : Nat} {y : Str} {py spos : Pos} {scope : Scope} {own : List (Str × Nat)} {ifs : List Expr} {wi : WI} {g : WG} {tt : WT} {te : WE} {sl : List Nat} (hc : X.calm = true) (hN : X.N.Nodup) (ok : BlkOk X.N X.env.scope scope own) (hi : VI X C tg iter wi)
    (hg : ∀ (s : Shared) (H : Hp) (Ca : Addr) (cl : List (Str × Addr)) (fp : List Addr), VG (X.blk s H scope (compEnvC scope cl Ca X.env) fp) C tg g sl) (ht : ∀ (s : Shared) (H : Hp) (Ca : Addr) (cl : List (Str × Addr)) (fp : List Addr), VTs (X.blk s H scope (compEnvC scope cl Ca X.env) fp) C ifs tt)
    (he : ∀ (s : Shared) (H : Hp) (Ca : Addr) (cl : List (Str × Addr)) (fp : List Addr), VE (X.blk s H scope (compEnvC scope cl Ca X.env) fp) C elt te) (hsl : ∀ i ∈ sl, i ∈ own.map (·.2) := by decide) (hy : X.N[i]? = some y := by rfl) (hyl : X.env.scope.names.lookup y = some .local := by rfl)
    (hsw : swapsWith (.ListComp elt [⟨tg, iter, ifs, 0⟩] scope pos) (some (.Name y py)) spos.line X.env = pure true := by exact sw_true rfl rfl rfl (by decide +kernel)) (hs : ∀ x, foldedSetIterable iter X.env x = pure x := by intro _; rfl) :
    VS X C (.Assign [.Name y py] (.ListComp elt [⟨tg, iter, ifs, 0⟩] scope pos) spos) (sSet i (wLc wi g tt te (own.map (·.2)))) := by
  refine PS.imp (ps_setLc (tt := lt X.K C tt) (te := lf X.K C te) (g := fun v σ H Q => lg X.K C g v σ H fun σ' H' => (∀ i, i ∉ sl → σ'[i]? = σ[i]?) → σ'.length = σ.length → Q σ' H') hc hN hy hyl hsw hi ok (fun s H Ca cl fp => (hg s H Ca cl fp).run) ht he hs) fun D σ H h => ?_
  have h2 := asg_put (i := i) D σ H h
  exact lc_tLc (g := g) (te := te) hsl σ H _ h2
end
end VL

-- VH
/-! VH: defs and their calls over trees. -/
namespace VL
open PySem PySem.Spec L2

/-- what a def does with trees: its result, whether it is a new list, the written parameters' lists behind it -/
abbrev FS := List D → (D → Bool → List D → Prop) → Prop

structure CallPre (K : PySem.W.Frag) (AV : Addr → Prop) (H : Hp) (io : List Nat) (ds : List D) (vs : List V) : Prop where
  len : ds.length = vs.length
  avt : ∀ a, AV a → H a ≠ none
  val : ∀ (i : Nat) d v, i ∉ io → ds[i]? = some d → vs[i]? = some v → Rep K AV H d v
  iov : ∀ (i : Nat), i ∈ io → ∃ a es us, ds[i]? = some (.lst es) ∧ vs[i]? = some (.ref a) ∧ AV a ∧ H a = some (.lst us) ∧ Reps K AV H es us
  inj : ∀ (i j : Nat) a, i ∈ io → j ∈ io → vs[i]? = some (.ref a) → vs[j]? = some (.ref a) → i = j
def AX (AV : Addr → Prop) (fl : Bool) (v : V) : Addr → Prop := fun b => AV b ∨ (fl = true ∧ v = .ref b)
structure CallPost (K : PySem.W.Frag) (AV : Addr → Prop) (H : Hp) (io : List Nat) (vs : List V) (d : D) (fl : Bool) (outs : List D) (v : V) (H' : Hp) : Prop where
  frame : ∀ b o, H b = some o → (∀ i ∈ io, vs[i]? ≠ some (.ref b)) → H' b = some o
  there : ∀ b, H b ≠ none → H' b ≠ none
  outs : ∀ (k i : Nat), io[k]? = some i → ∃ a es us, vs[i]? = some (.ref a) ∧ outs[k]? = some (.lst es) ∧ H' a = some (.lst us) ∧ Reps K (AX AV fl v) H' es us
  val : match fl with
    | false => Rep K AV H' d v
    | true => ∃ a us ds, v = .ref a ∧ d = .lst ds ∧ H a = none ∧ H' a = some (.lst us) ∧ Reps K (AX AV fl v) H' ds us
def spOf (K : PySem.W.Frag) (n : Nat) (io : List Nat) (fs : FS) : Sp := fun vs H Q _ => ∃ ds AV Qv, vs.length = n ∧ CallPre K AV H io ds vs ∧ fs ds Qv ∧ ∀ d fl outs v H', Qv d fl outs → CallPost K AV H io vs d fl outs v H' → Q v H'

/-! ### a def by its body -/
def ioS : D → Slot
  | .lst es => .io es
  | d => .sh d
def startGo (io : List Nat) : Nat → List D → G
  | _, [] => []
  | i, d :: ds => (if io.contains i then ioS d else .sh d) :: startGo io (i + 1) ds
def startG (io : List Nat) (n : Nat) (ds : List D) : G := startGo io 0 ds ++ List.replicate (n - ds.length) .un
def outsOf (io : List Nat) (Γ : G) : List D := io.map fun (i : Nat) => match gAt Γ i with
  | .io es => .lst es
  | _ => .non
theorem startGo_get {io : List Nat} : ∀ {ds : List D} {k i : Nat} {s : Slot}, (startGo io k ds)[i]? = some s → ∃ d, ds[i]? = some d ∧ s = if io.contains (k + i) then ioS d else .sh d
  | [], _, _, _, e => by simp [startGo] at e
  | d :: ds, k, 0, s, e => by
    simp [startGo] at e
    exact ⟨d, rfl, by simp [← e]⟩
  | d :: ds, k, i + 1, s, e => by
    simp only [startGo, List.getElem?_cons_succ] at e
    obtain ⟨d', e1, e2⟩ := startGo_get e
    rw [show k + 1 + i = k + (i + 1) by omega] at e2
    exact ⟨d', by simpa using e1, e2⟩
theorem startGo_len {io : List Nat} : ∀ {ds : List D} {k : Nat}, (startGo io k ds).length = ds.length
  | [], _ => rfl
  | d :: ds, k => by simp [startGo, startGo_len (ds := ds)]
theorem startG_get {io : List Nat} {n : Nat} {ds : List D} {i : Nat} {s : Slot} (e : (startG io n ds)[i]? = some s) : s = .un ∨ ∃ d, ds[i]? = some d ∧ s = if io.contains i then ioS d else .sh d := by
  unfold startG at e
  by_cases hi : i < (startGo io 0 ds).length
  · rw [List.getElem?_append_left hi] at e
    obtain ⟨d, e1, e2⟩ := startGo_get e
    exact .inr ⟨d, e1, by simpa using e2⟩
  · rw [List.getElem?_append_right (by omega), List.getElem?_replicate] at e
    split at e
    · cases e; exact .inl rfl
    · cases e
def ioP (io : List Nat) (vs : List V) : List (Nat × Addr) := io.filterMap fun (i : Nat) => match vs[i]? with
  | some (.ref a) => some (i, a)
  | _ => none
theorem mem_ioP {io : List Nat} {vs : List V} {i : Nat} {a : Addr} : (i, a) ∈ ioP io vs ↔ i ∈ io ∧ vs[i]? = some (.ref a) := by
  unfold ioP
  rw [List.mem_filterMap]
  constructor
  · rintro ⟨j, hj, e⟩
    cases z : vs[j]? with
    | none => rw [z] at e; cases e
    | some v =>
      rw [z] at e
      cases v <;> cases e
      exact ⟨hj, z⟩
  · rintro ⟨h, e⟩
    exact ⟨i, h, by rw [e]⟩
section
variable {P : Program} {w : World} {K : PySem.W.Frag} {mg : Str → Option Value} {base : Heap}
theorem rel_start {io : List Nat} {N : List Str} {AV : Addr → Prop} {H : Hp} {ds : List D} {vs : List V} (p : CallPre K AV H io ds vs) (hl : vs.length ≤ N.length) (hio : ∀ (i : Nat) a, (i, a) ∈ ioP io vs → H a ≠ none) :
    Rel K ⟨H, ioP io vs, AV, hio⟩ AV (startG io N.length ds) (L2.start N vs) H := by
  have hσ : ∀ {i : Nat} {v : V}, vs[i]? = some v → (L2.start N vs)[i]? = some (some v) := fun {i v} e => by
    unfold L2.start
    have hi : i < (vs.map some).length := by rw [List.length_map]; exact (List.getElem?_eq_some_iff.mp e).1
    rw [List.getElem?_append_left hi, List.getElem?_map, e]; rfl
  have dv : ∀ {i : Nat} {d : D}, ds[i]? = some d → ∃ v, vs[i]? = some v := fun {i d} e => by
    have hi : i < vs.length := by rw [← p.len]; exact (List.getElem?_eq_some_iff.mp e).1
    exact ⟨_, List.getElem?_eq_getElem hi⟩
  have accS : ∀ (i : Nat) s, (startG io N.length ds)[i]? = some s → s.isA = true → i ∈ io ∧ ∃ a es us, ds[i]? = some (.lst es) ∧ s = .io es ∧ vs[i]? = some (.ref a) ∧ AV a ∧ H a = some (.lst us) ∧ Reps K AV H es us := fun i s e q => by
    rcases startG_get e with rfl | ⟨d, e1, e2⟩
    · cases q
    · by_cases hc : io.contains i = true
      · rw [if_pos hc] at e2
        have hm : i ∈ io := by simpa using hc
        obtain ⟨a, es, us, g1, g2, g3, g4, g5⟩ := p.iov i hm
        rw [e1] at g1; cases g1
        exact ⟨hm, a, es, us, e1, e2, g2, g3, g4, g5⟩
      · rw [if_neg hc] at e2; subst e2; cases q
  have sub : ∀ b, AvA AV (startG io N.length ds) (L2.start N vs) b → AV b := fun b z => by
    rcases z with z | ⟨i, s, e, q, r⟩
    · exact z
    · obtain ⟨hm, a, es, us, g1, g2, g3, g4, _⟩ := accS i s e q
      rw [hσ g3] at r; cases r
      exact g4
  refine ⟨fun _ z => z, p.avt, fun i d e => ?_, fun i es e => ?_, fun i es e => ?_, fun i a h => ?_, fun i j s t a h1 h2 h3 h4 h5 h6 => ?_, fun b o h _ => h, fun b h => h, ?_⟩
  · rcases startG_get e with z | ⟨d', e1, e2⟩
    · cases z
    · obtain ⟨v, ev⟩ := dv e1
      by_cases hc : io.contains i = true
      · rw [if_pos hc] at e2
        have hm : i ∈ io := by simpa using hc
        obtain ⟨a, es, us, g1, _⟩ := p.iov i hm
        rw [e1] at g1; cases g1
        cases e2
      · rw [if_neg hc] at e2; cases e2
        have hm : i ∉ io := by simpa using hc
        exact ⟨v, hσ ev, Rep.anti sub _ _ (p.val i _ v hm e1 ev)⟩
  · obtain ⟨_, _, _, _, _, z, _⟩ := accS i _ e rfl
    cases z
  · obtain ⟨hm, a, es', us, g1, g2, g3, g4, g5, g6⟩ := accS i _ e rfl
    cases g2
    exact ⟨a, us, mem_ioP.mpr ⟨hm, g3⟩, hσ g3, g5, Reps.anti sub _ _ g6⟩
  · obtain ⟨hm, ev⟩ := mem_ioP.mp h
    obtain ⟨a', es, us, g1, g2, _⟩ := p.iov i hm
    refine ⟨es, ?_, hσ ev⟩
    have hlt : i < ds.length := (List.getElem?_eq_some_iff.mp g1).1
    have hlt2 : i < (startGo io 0 ds).length := by rw [startGo_len]; exact hlt
    unfold startG
    rw [List.getElem?_append_left hlt2]
    have : ∃ s, (startGo io 0 ds)[i]? = some s := ⟨_, List.getElem?_eq_getElem hlt2⟩
    obtain ⟨s, es'⟩ := this
    obtain ⟨d, f1, f2⟩ := startGo_get es'
    rw [g1] at f1; cases f1
    rw [es', f2]
    have hc : io.contains (0 + i) = true := by simpa using hm
    rw [if_pos hc]; rfl
  · obtain ⟨m1, a1, _, _, _, _, g1, _⟩ := accS i s h1 h2
    obtain ⟨m2, a2, _, _, _, _, g2, _⟩ := accS j t h3 h4
    rw [hσ g1] at h5; cases h5
    rw [hσ g2] at h6; cases h6
    exact p.inj i j a m1 m2 g1 g2
  · unfold startG L2.start
    rw [List.length_append, startGo_len, List.length_replicate, List.length_append, List.length_map, List.length_replicate, p.len]
theorem post_of {io : List Nat} {AV : Addr → Prop} {H : Hp} {ds : List D} {vs : List V} (p : CallPre K AV H io ds vs) {hio} {d : D} {fl : Bool} {Γ' : G} {v : V} {H' : Hp} (q : PostR K (C := ⟨H, ioP io vs, AV, hio⟩) d fl Γ' v H') :
    CallPost K AV H io vs d fl (outsOf io Γ') v H' := by
  refine ⟨fun b o e n => q.frame b o e fun i hm => n i (mem_ioP.mp hm).1 (mem_ioP.mp hm).2, q.there, fun k i ek => ?_, ?_⟩
  · have hm : i ∈ io := List.mem_of_getElem? ek
    obtain ⟨a, es, us, g1, g2, _⟩ := p.iov i hm
    obtain ⟨es', us', f1, f2, f3⟩ := q.ios i a (mem_ioP.mpr ⟨hm, g2⟩)
    refine ⟨a, es', us', g2, ?_, f2, f3⟩
    unfold outsOf
    rw [List.getElem?_map, ek]
    simp only [Option.map_some, f1]
  · have := q.val
    cases fl with
    | false => exact this
    | true => exact this
/-- THE RULE for a def -/
theorem vfn {x qual : Str} {st : Stmt} {f : Addr} {fd : FuncData} {N ps : List Str} {k : Nat} {io : List Nat} {fs : FS} (F : Fun K x qual st f fd) (S : FnScope N ps (defScope st))
    (hbody : ∀ (C : Act) (cdv : Value) (A : Around) (outer : List Env) (s : Shared) (H : Hp) (E : XK), Room k (A.deeper (PyProof.Rows.envOfC qual (defScope st) s.heap.objs.size f cdv)) →
      ∃ wb, VSs (cxOf CX0 P w K mg base N qual (defScope st) f cdv A outer s H E).nox C (defBody st) wb ∧ ∀ ds Qv, ds.length = ps.length → fs ds Qv → wb { nx := fun Γ => Qv .non false (outsOf io Γ), rt := fun d fl Γ => Qv d fl (outsOf io Γ) } (startG io N.length ds)) :
    FnOk P w K mg base CX0 (k + 1) f fd ps (spOf K ps.length io fs) := by
  refine F.ok S (fun vs H Q E ⟨_, _, _, h, _⟩ => h) fun cdv A outer s H vs Q E hr ⟨ds, AV, Qv, hl, pre, hf, hq⟩ => ?_
  have hio : ∀ (i : Nat) a, (i, a) ∈ ioP io vs → H a ≠ none := fun i a hm => by
    obtain ⟨m, e⟩ := mem_ioP.mp hm
    obtain ⟨a', es, us, g1, g2, g3, g4, _⟩ := pre.iov i m
    rw [e] at g2; cases g2
    rw [g4]; exact fun q => nomatch q
  obtain ⟨wb, hw, hs⟩ := hbody ⟨H, ioP io vs, AV, hio⟩ cdv A outer s H E hr
  have hps : ps.length ≤ N.length := by
    have := congrArg List.length S.pre
    rw [List.length_take] at this
    omega
  have R := rel_start pre (N := N) (by omega) hio
  refine ⟨_, hw, startG io N.length ds, AV, _, R, hs ds Qv (by rw [pre.len, hl]) hf, fun Γ' σ' H' q p => ?_, fun d fl Γ' v H' q p => ?_, fun _ _ _ q => q.elim, fun _ _ _ q => q.elim⟩
  · exact hq _ _ _ _ _ q (post_of pre (p.rel.ret rfl))
  · exact hq _ _ _ _ _ q (post_of pre p)
end

/-! ### a call -/
def cD (io : List Nat) (Γ : G) : Nat → List Arg → Option (List D)
  | _, [] => some []
  | i, a :: as => match (if io.contains i then (match a with
      | .s j => (gAt Γ j).its.map D.lst
      | .v _ => none) else (match a with
      | .s _ => none
      | .v d => some d)), cD io Γ (i + 1) as with
    | some d, some ds => some (d :: ds)
    | _, _ => none
def cJ (io : List Nat) (as : List Arg) : List Nat := io.map fun (i : Nat) => match as[i]? with
  | some (.s j) => j
  | _ => 0
def nodupB : List Nat → Bool
  | [] => true
  | j :: js => !js.contains j && nodupB js
def putOuts : List Nat → List D → G → (G → Prop) → Prop
  | [], [], Γ, k => k Γ
  | j :: js, .lst es :: outs, Γ, k => putOuts js outs (gWr Γ j es) k
  | _, _, _, _ => False
def callW (n : Nat) (io : List Nat) (fs : FS) (Γ1 : G) (as : List Arg) (Q : D → Bool → G → Prop) : Prop := match cD io Γ1 0 as with
  | some ds => as.length = n ∧ nodupB (cJ io as) = true ∧ fs ds fun d fl outs => putOuts (cJ io as) outs Γ1 fun Γ2 => Q d fl Γ2
  | none => False
def wCall (n : Nat) (io : List Nat) (fs : FS) (wa : WA) : WE := fun Γ Q => wa Γ fun as Γ1 => callW n io fs Γ1 as Q

theorem nodupB_of : ∀ {js : List Nat}, nodupB js = true → js.Nodup
  | [], _ => List.nodup_nil
  | j :: js, h => by
    simp only [nodupB, Bool.and_eq_true, Bool.not_eq_true'] at h
    refine List.nodup_cons.mpr ⟨?_, nodupB_of h.2⟩
    intro hm
    have : js.contains j = true := by simpa using hm
    rw [this] at h; cases h.1
theorem cD_len {io : List Nat} {Γ : G} : ∀ {as : List Arg} {i : Nat} {ds : List D}, cD io Γ i as = some ds → ds.length = as.length
  | [], _, _, e => by cases e; rfl
  | a :: as, i, ds, e => by
    unfold cD at e
    split at e
    · rename_i h1 h2
      cases e
      simp [cD_len h2]
    · cases e
theorem cD_get {io : List Nat} {Γ : G} : ∀ {as : List Arg} {i : Nat} {ds : List D} {n : Nat} {a : Arg}, cD io Γ i as = some ds → as[n]? = some a →
    (i + n ∈ io ∧ ∃ j es, a = .s j ∧ (gAt Γ j).its = some es ∧ ds[n]? = some (.lst es)) ∨ (i + n ∉ io ∧ ∃ d, a = .v d ∧ ds[n]? = some d)
  | [], _, _, _, _, _, e => by simp at e
  | a :: as, i, ds, n, a', e, en => by
    unfold cD at e
    split at e
    · rename_i d ds' h1 h2
      cases e
      cases n with
      | zero =>
        simp at en; subst en
        by_cases hc : io.contains i = true
        · rw [if_pos hc] at h1
          have hm : i ∈ io := by simpa using hc
          cases a with
          | v d' => cases h1
          | s j =>
            cases z : (gAt Γ j).its with
            | none => simp only [z] at h1; cases h1
            | some es =>
              simp only [z, Option.map_some] at h1
              cases h1
              exact .inl ⟨hm, j, es, rfl, z, rfl⟩
        · rw [if_neg hc] at h1
          have hm : i ∉ io := by simpa using hc
          cases a with
          | s j => cases h1
          | v d' => cases h1; exact .inr ⟨hm, _, rfl, rfl⟩
      | succ n =>
        simp only [List.getElem?_cons_succ] at en
        have := cD_get h2 en
        have e2 : i + 1 + n = i + (n + 1) := by omega
        rw [e2] at this
        simpa using this
    · cases e
theorem argReps_get {K : PySem.W.Frag} {A : Addr → Prop} {Γ : G} {σ : L2.St} {H : Hp} : ∀ {as : List Arg} {vs : List V} {n : Nat} {v : V}, ArgReps K A Γ σ H as vs → vs[n]? = some v → ∃ a, as[n]? = some a ∧ ArgRep K A Γ σ H a v
  | [], _, _, _, r, e => by cases r; simp at e
  | a :: as, vs, n, v, r, e => by
    obtain ⟨u, us, rfl, r1, r2⟩ := r
    cases n with
    | zero => simp at e; subst e; exact ⟨a, rfl, r1⟩
    | succ n => simpa using argReps_get r2 (by simpa using e)
theorem argReps_get' {K : PySem.W.Frag} {A : Addr → Prop} {Γ : G} {σ : L2.St} {H : Hp} : ∀ {as : List Arg} {vs : List V} {n : Nat} {a : Arg}, ArgReps K A Γ σ H as vs → as[n]? = some a → ∃ v, vs[n]? = some v ∧ ArgRep K A Γ σ H a v
  | [], _, _, _, r, e => by simp at e
  | a :: as, vs, n, b, r, e => by
    obtain ⟨u, us, rfl, r1, r2⟩ := r
    cases n with
    | zero => simp at e; subst e; exact ⟨u, rfl, r1⟩
    | succ n => simpa using argReps_get' r2 (by simpa using e)
theorem argReps_len {K : PySem.W.Frag} {A : Addr → Prop} {Γ : G} {σ : L2.St} {H : Hp} : ∀ {as : List Arg} {vs : List V}, ArgReps K A Γ σ H as vs → as.length = vs.length
  | [], _, r => by cases r; rfl
  | a :: as, vs, r => by
    obtain ⟨u, us, rfl, r1, r2⟩ := r
    simp [argReps_len r2]
theorem putOuts_of : ∀ {js : List Nat} {outs : List D} {Γ : G} {k : G → Prop}, putOuts js outs Γ k → js.Nodup → (∀ j ∈ js, ∃ ds, (gAt Γ j).its = some ds) →
    ∃ Γ2, k Γ2 ∧ Γ2.length = Γ.length ∧ (∀ i, i ∉ js → Γ2[i]? = Γ[i]?) ∧ ∀ (n j : Nat), js[n]? = some j → ∃ es, outs[n]? = some (.lst es) ∧ Γ2[j]? = some ((gAt Γ j).to es)
  | [], [], Γ, k, h, _, _ => ⟨Γ, h, rfl, fun _ _ => rfl, fun n j e => by simp at e⟩
  | j :: js, .lst es :: outs, Γ, k, h, nd, hA => by
    obtain ⟨hj, nd'⟩ := List.nodup_cons.mp nd
    have hne : ∀ i, i ≠ j → (gWr Γ j es)[i]? = Γ[i]? := fun i hi => by
      unfold gWr
      rw [gSet_eq, List.getElem?_set_ne (fun z => hi z.symm)]
    have hat : ∀ i, i ≠ j → gAt (gWr Γ j es) i = gAt Γ i := fun i hi => by
      have hh := hne i hi
      cases z : Γ[i]? with
      | none =>
        rw [z] at hh
        have un : ∀ {Δ : G}, Δ[i]? = none → gAt Δ i = .un := fun {Δ} e => by
          cases y : gAt Δ i with
          | un => rfl
          | _ => have := gAt_some y (fun q => nomatch q); rw [e] at this; cases this
        rw [un z, un hh]
      | some s => rw [z] at hh; rw [gAt_of z, gAt_of hh]
    obtain ⟨Γ2, k1, k2, k3, k4⟩ := putOuts_of (Γ := gWr Γ j es) h nd' fun i hi => by
      rw [hat i (fun z => hj (z ▸ hi))]
      exact hA i (List.mem_cons_of_mem _ hi)
    refine ⟨Γ2, k1, by rw [k2]; unfold gWr; rw [gSet_eq, List.length_set], fun i hi => ?_, fun n i e => ?_⟩
    · simp only [List.mem_cons, not_or] at hi
      rw [k3 i hi.2, hne i hi.1]
    · cases n with
      | zero =>
        simp at e; subst e
        refine ⟨es, rfl, ?_⟩
        rw [k3 j hj]
        unfold gWr
        obtain ⟨ds, hd⟩ := hA j List.mem_cons_self
        rw [gSet_eq, List.getElem?_set_self (List.getElem?_eq_some_iff.mp (gAt_some rfl (Slot.its_un hd))).1]
      | succ n =>
        simp only [List.getElem?_cons_succ] at e
        obtain ⟨es', f1, f2⟩ := k4 n i e
        have hi : i ≠ j := fun z => hj (z ▸ List.mem_of_getElem? e)
        rw [hat i hi] at f2
        exact ⟨es', by simpa using f1, f2⟩
  | [], _ :: _, _, _, h, _, _ => h.elim
  | j :: js, [], _, _, h, _, _ => h.elim
  | j :: js, .non :: _, _, _, h, _, _ => h.elim
  | j :: js, .bl _ :: _, _, _, h, _, _ => h.elim
  | j :: js, .int _ :: _, _, _, h, _, _ => h.elim
  | j :: js, .str _ :: _, _, _, h, _, _ => h.elim
  | j :: js, .tup _ :: _, _, _, h, _, _ => h.elim
  | j :: js, .fz _ :: _, _, _, h, _, _ => h.elim
  | j :: js, .raw _ :: _, _, _, h, _, _ => h.elim
section
variable {K : PySem.W.Frag} {C : Act} {AV : Addr → Prop} {Γ Γ' Γ2 : G} {σ σ' σ2 : L2.St} {H H' H2 : Hp}
theorem call_pre {io : List Nat} {as : List Arg} {ds : List D} {vs : List V} (R : Rel K C AV Γ σ H) (ra : ArgReps K (AvA AV Γ σ) Γ σ H as vs) (e : cD io Γ 0 as = some ds) (nd : (cJ io as).Nodup) (hio : ∀ i ∈ io, i < as.length) (ndio : io.Nodup) : CallPre K (AvA AV Γ σ) H io ds vs := by
  refine ⟨by rw [cD_len e, argReps_len ra], fun a z => R.avaT z, fun i d v hi ed ev => ?_, fun i hi => ?_, fun i j a hi hj e1 e2 => ?_⟩
  · obtain ⟨a, ea, r⟩ := argReps_get ra ev
    rcases cD_get e ea with ⟨h, _⟩ | ⟨_, d', rfl, e2⟩
    · simp at h; exact absurd h hi
    · rw [ed] at e2; cases e2
      exact r
  · obtain ⟨a, ea⟩ : ∃ a, as[i]? = some a := ⟨_, List.getElem?_eq_getElem (hio i hi)⟩
    rcases cD_get e ea with ⟨_, j, es, rfl, e2, e3⟩ | ⟨h, _⟩
    · obtain ⟨v, ev, r⟩ := argReps_get' ra ea
      obtain ⟨b, us, f1, f2, f3⟩ := R.its e2
      have r : σ[j]? = some (some v) := r
      rw [r] at f1; cases f1
      exact ⟨b, es, us, e3, ev, .inr ⟨j, _, gAt_some rfl (Slot.its_un e2), Slot.its_A e2, r⟩, f2, f3⟩
    · simp at h; exact absurd hi h
  · obtain ⟨x, ex, rx⟩ := argReps_get ra e1
    obtain ⟨y, ey, ry⟩ := argReps_get ra e2
    rcases cD_get e ex with ⟨_, p, es, rfl, p1, p2⟩ | ⟨h, _⟩
    · rcases cD_get e ey with ⟨_, q, es', rfl, q1, q2⟩ | ⟨h, _⟩
      · have hpq : p = q := R.inj p q _ _ a (gAt_some rfl (Slot.its_un p1)) (Slot.its_A p1) (gAt_some rfl (Slot.its_un q1)) (Slot.its_A q1) rx ry
        subst hpq
        obtain ⟨n, hn⟩ := List.getElem?_of_mem hi
        obtain ⟨m, hm⟩ := List.getElem?_of_mem hj
        have c1 : (cJ io as)[n]? = some p := by unfold cJ; rw [List.getElem?_map, hn]; simp [ex]
        have c2 : (cJ io as)[m]? = some p := by unfold cJ; rw [List.getElem?_map, hm]; simp [ey]
        obtain ⟨l1, g1⟩ := List.getElem?_eq_some_iff.mp c1
        obtain ⟨l2, g2⟩ := List.getElem?_eq_some_iff.mp c2
        have hnm : n = m := (List.getElem_inj nd).mp (g1.trans g2.symm)
        subst hnm
        rw [hn] at hm; cases hm; rfl
      · simp at h; exact absurd hj h
    · simp at h; exact absurd hi h
theorem call_post {io : List Nat} {as : List Arg} {ds : List D} {vs : List V} {d : D} {fl : Bool} {outs : List D} {v : V} {k : G → Prop} (R : Rel K C AV Γ σ H) (ra : ArgReps K (AvA AV Γ σ) Γ σ H as vs) (e : cD io Γ 0 as = some ds) (nd : (cJ io as).Nodup) (hio : ∀ i ∈ io, i < as.length)
    (p : CallPost K (AvA AV Γ σ) H io vs d fl outs v H') (h : putOuts (cJ io as) outs Γ k) : ∃ Γ2, k Γ2 ∧ PostE K C AV Γ σ H Γ2 H' d v fl := by
  -- the written arguments
  have slotAt : ∀ (n j : Nat), (cJ io as)[n]? = some j → ∃ i a es us, io[n]? = some i ∧ as[i]? = some (.s j) ∧ (gAt Γ j).its = some es ∧ vs[i]? = some (.ref a) ∧ σ[j]? = some (some (.ref a)) ∧ H a = some (.lst us) := fun n j ej => by
    unfold cJ at ej
    rw [List.getElem?_map] at ej
    cases zn : io[n]? with
    | none => rw [zn] at ej; cases ej
    | some i =>
      have hi : i ∈ io := List.mem_of_getElem? zn
      obtain ⟨a, ea⟩ : ∃ a, as[i]? = some a := ⟨_, List.getElem?_eq_getElem (hio i hi)⟩
      rcases cD_get e ea with ⟨_, j', es, rfl, e2, e3⟩ | ⟨hn, _⟩
      · rw [zn] at ej
        simp only [Option.map_some, ea] at ej
        have ej' : j' = j := Option.some.inj ej
        subst ej'
        obtain ⟨u, eu, r⟩ := argReps_get' ra ea
        obtain ⟨b, us, f1, f2, f3⟩ := R.its e2
        have r : σ[j']? = some (some u) := r
        rw [r] at f1; cases f1
        exact ⟨i, b, es, us, rfl, ea, e2, eu, r, f2⟩
      · simp at hn; exact absurd hi hn
  have memAt : ∀ j ∈ cJ io as, ∃ es, (gAt Γ j).its = some es := fun j hj => by
    obtain ⟨n, hn⟩ := List.getElem?_of_mem hj
    obtain ⟨_, _, es, _, _, _, h1, _⟩ := slotAt n j hn
    exact ⟨es, h1⟩
  obtain ⟨Γ2, k1, k2, k3, k4⟩ := putOuts_of h nd memAt
  refine ⟨Γ2, k1, ?_⟩
  have jOf : ∀ i ∈ io, ∀ b, vs[i]? = some (.ref b) → ∃ n j, (cJ io as)[n]? = some j ∧ σ[j]? = some (some (.ref b)) ∧ ∃ es, (gAt Γ j).its = some es := fun i hi b eb => by
    obtain ⟨n, hn⟩ := List.getElem?_of_mem hi
    obtain ⟨a, ea⟩ : ∃ a, as[i]? = some a := ⟨_, List.getElem?_eq_getElem (hio i hi)⟩
    rcases cD_get e ea with ⟨_, j', es, rfl, e2, e3⟩ | ⟨hn, _⟩
    · obtain ⟨u, eu, r⟩ := argReps_get' ra ea
      rw [eb] at eu; cases eu
      exact ⟨n, j', by unfold cJ; rw [List.getElem?_map, hn]; simp [ea], r, es, e2⟩
    · simp at hn; exact absurd hi hn
  have notIo : ∀ b, (∀ (n j : Nat), (cJ io as)[n]? = some j → σ[j]? ≠ some (some (V.ref b))) → ∀ i ∈ io, vs[i]? ≠ some (V.ref b) := fun b hb i hi z => by
    obtain ⟨n, j, h1, h2, _⟩ := jOf i hi b z
    exact hb n j h1 h2
  have ioLst : ∀ i ∈ io, ∀ b, vs[i]? = some (.ref b) → ∃ us, H b = some (.lst us) := fun i hi b eb => by
    obtain ⟨n, j, h1, h2, es, h3⟩ := jOf i hi b eb
    obtain ⟨a, us, f1, f2, _⟩ := R.its h3
    rw [h2] at f1; cases f1
    exact ⟨us, f2⟩
  have st : Step (Acc Γ σ) H H' := by
    refine ⟨fun b o eb nb => p.frame b o eb fun i hi z => ?_, p.there, fun b xs eb => p.frame b _ eb fun i hi z => ?_, fun b o u eb => p.frame b _ eb fun i hi z => ?_⟩
    · obtain ⟨n, j, h1, h2, es, h3⟩ := jOf i hi b z
      exact nb ⟨j, _, gAt_some rfl (Slot.its_un h3), Slot.its_A h3, h2⟩
    · obtain ⟨us, f⟩ := ioLst i hi b z
      rw [f] at eb; cases eb
    · obtain ⟨us, f⟩ := ioLst i hi b z
      rw [f] at eb; cases eb
  have toA : ∀ {s : Slot} {ds es}, s.its = some ds → (s.to es).isA = true := fun {s ds es} h => by
    rcases Slot.its_of h with z | z <;> rw [z] <;> rfl
  have shr : ∀ (i : Nat) s, Γ2[i]? = some s → s.isA = true → ∃ s0, Γ[i]? = some s0 ∧ s0.isA = true := fun i s ei q => by
    by_cases hi : i ∈ cJ io as
    · obtain ⟨es, h1⟩ := memAt i hi
      exact ⟨_, gAt_some rfl (Slot.its_un h1), Slot.its_A h1⟩
    · rw [k3 i hi] at ei
      exact ⟨s, ei, q⟩
  have subX : ∀ b, AvA (AX AV fl v) Γ2 σ b → AvA AV Γ σ b ∨ H b = none := fun b z => by
    rcases z with (z | ⟨z1, z2⟩) | z
    · exact .inl (.inl z)
    · subst z1
      obtain ⟨a, us, ds', f1, _, f3, _⟩ := p.val
      rw [f1] at z2; cases z2
      exact .inr f3
    · exact .inl (.inr (acc_sub shr z))
  have subY : ∀ b, AvA (AX AV fl v) Γ2 σ b → AX (AvA AV Γ σ) fl v b := fun b z => by
    rcases z with (z | z) | z
    · exact .inl (.inl z)
    · exact .inr z
    · exact .inl (.inr (acc_sub shr z))
  have rp : ∀ {d u}, Rep K (AvA AV Γ σ) H d u → Rep K (AvA (AX AV fl v) Γ2 σ) H' d u := fun {d u} r => Rep.anti subX d u (Rep.step st (fun b z => .inl (.inr z)) d u (Rep.fresh d u r))
  have rps : ∀ {ds us}, Reps K (AvA AV Γ σ) H ds us → Reps K (AvA (AX AV fl v) Γ2 σ) H' ds us := fun {ds us} r => Reps.anti subX ds us (Reps.step st (fun b z => .inl (.inr z)) ds us (Reps.fresh ds us r))
  have R2 : Rel K C (AX AV fl v) Γ2 σ H' := by
    have outAt : ∀ (j : Nat), j ∈ cJ io as → ∃ a es us, σ[j]? = some (some (.ref a)) ∧ Γ2[j]? = some ((gAt Γ j).to es) ∧ H' a = some (.lst us) ∧ Reps K (AvA (AX AV fl v) Γ2 σ) H' es us := fun j hj => by
      obtain ⟨n, hn⟩ := List.getElem?_of_mem hj
      obtain ⟨i, a, es0, us0, h1, h2, h3, h4, h5, h6⟩ := slotAt n j hn
      obtain ⟨es, g1, g2⟩ := k4 n j hn
      obtain ⟨a', es', us, f1, f2, f3, f4⟩ := p.outs n i h1
      rw [h4] at f1; cases f1
      rw [g1] at f2; cases f2
      exact ⟨a, es, us, h5, g2, f3, Reps.anti subY _ _ f4⟩
    have keepA : ∀ {i : Nat} {s : Slot} {a : Addr} {us : List V}, i ∉ cJ io as → Γ[i]? = some s → s.isA = true → σ[i]? = some (some (.ref a)) → H a = some (.lst us) → H' a = some (.lst us) := fun {i s a us} hi es q ea ha =>
      p.frame a _ ha (notIo a fun n j ej z => by
        obtain ⟨es', h1⟩ := memAt j (List.mem_of_getElem? ej)
        have := R.inj i j s _ a es q (gAt_some rfl (Slot.its_un h1)) (Slot.its_A h1) ea z
        exact hi (this ▸ List.mem_of_getElem? ej))
    refine ⟨fun a z => .inl (R.avs a z), fun a z => ?_, fun i d' ei => ?_, fun i es ei => ?_, fun i es ei => ?_, fun i a hia => ?_, fun i j s t a h1 h2 h3 h4 h5 h6 => ?_, fun b o eb nb => ?_, fun b z => p.there b (R.there b z), by rw [k2]; exact R.len⟩
    · rcases z with z | ⟨z1, z2⟩
      · exact p.there a (R.avt a z)
      · subst z1
        obtain ⟨a', us, ds', f1, _, f3, f4, _⟩ := p.val
        rw [f1] at z2; cases z2
        rw [f4]; exact fun q => nomatch q
    · have hi : i ∉ cJ io as := fun hj => by
        obtain ⟨a, es, us, _, g2, _⟩ := outAt i hj
        rw [g2] at ei
        obtain ⟨es', h1⟩ := memAt i hj
        rcases Slot.its_of h1 with z | z <;> (rw [z] at ei; cases ei)
      rw [k3 i hi] at ei
      obtain ⟨u, e1, r⟩ := R.sh i d' ei
      exact ⟨u, e1, rp r⟩
    · by_cases hi : i ∈ cJ io as
      · obtain ⟨a, es', us, g1, g2, g3, g4⟩ := outAt i hi
        rw [g2] at ei
        obtain ⟨es0, h1⟩ := memAt i hi
        rcases Slot.its_of h1 with z | z
        · rw [z] at ei; cases ei
          obtain ⟨b, us', f1, f2, f3, f4, f5⟩ := R.ac i es0 (by rw [← z]; exact gAt_some rfl (Slot.its_un h1))
          rw [g1] at f1; cases f1
          refine ⟨a, us, g1, g3, g4, f4, fun y => ?_⟩
          rcases y with y | ⟨y1, y2⟩
          · exact f5 y
          · subst y1
            obtain ⟨a', _, _, q1, _, q3, _⟩ := p.val
            rw [q1] at y2; cases y2
            rw [f2] at q3; cases q3
        · rw [z] at ei; cases ei
      · rw [k3 i hi] at ei
        obtain ⟨b, us', f1, f2, f3, f4, f5⟩ := R.ac i es ei
        refine ⟨b, us', f1, keepA hi ei rfl f1 f2, rps f3, f4, fun y => ?_⟩
        rcases y with y | ⟨y1, y2⟩
        · exact f5 y
        · subst y1
          obtain ⟨a', _, _, q1, _, q3, _⟩ := p.val
          rw [q1] at y2; cases y2
          rw [f2] at q3; cases q3
    · by_cases hi : i ∈ cJ io as
      · obtain ⟨a, es', us, g1, g2, g3, g4⟩ := outAt i hi
        rw [g2] at ei
        obtain ⟨es0, h1⟩ := memAt i hi
        rcases Slot.its_of h1 with z | z
        · rw [z] at ei; cases ei
        · rw [z] at ei; cases ei
          obtain ⟨b, us', f0, f1, f2, f3⟩ := R.io i es0 (by rw [← z]; exact gAt_some rfl (Slot.its_un h1))
          rw [g1] at f1; cases f1
          exact ⟨a, us, f0, g1, g3, g4⟩
      · rw [k3 i hi] at ei
        obtain ⟨b, us', f0, f1, f2, f3⟩ := R.io i es ei
        exact ⟨b, us', f0, f1, keepA hi ei rfl f1 f2, rps f3⟩
    · obtain ⟨es, e1, e2⟩ := R.ios i a hia
      by_cases hi : i ∈ cJ io as
      · obtain ⟨a', es', us, g1, g2, g3, g4⟩ := outAt i hi
        rw [gAt_of e1] at g2
        exact ⟨es', g2, e2⟩
      · exact ⟨es, by rw [k3 i hi]; exact e1, e2⟩
    · obtain ⟨s0, x1, x2⟩ := shr i s h1 h2
      obtain ⟨t0, y1, y2⟩ := shr j t h3 h4
      exact R.inj i j s0 t0 a x1 x2 y1 y2 h5 h6
    · have hb := R.frame b o eb nb
      by_cases hx : ∃ (n j : Nat), (cJ io as)[n]? = some j ∧ σ[j]? = some (some (V.ref b))
      · obtain ⟨n, j, h1, h2⟩ := hx
        obtain ⟨es0, h3⟩ := memAt j (List.mem_of_getElem? h1)
        exfalso
        rcases Slot.its_of h3 with z | z
        · obtain ⟨b', us', f1, f2, f3, f4, f5⟩ := R.ac j es0 (by rw [← z]; exact gAt_some rfl (Slot.its_un h3))
          rw [h2] at f1; cases f1
          rw [f4] at eb; cases eb
        · obtain ⟨b', us', f0, f1, f2, f3⟩ := R.io j es0 (by rw [← z]; exact gAt_some rfl (Slot.its_un h3))
          rw [h2] at f1; cases f1
          exact nb j f0
      · exact p.frame b o hb (notIo b fun n j ej z => hx ⟨n, j, ej, z⟩)
  refine ⟨st, shr, ?_⟩
  cases fl with
  | false =>
    have e1 : AX AV false v = AV := by
      funext b
      apply propext
      exact ⟨fun z => z.elim id (fun z => nomatch z.1), fun z => Or.inl z⟩
    rw [e1] at R2
    have pv := p.val
    exact ⟨R2, Rep.anti (fun b z => z.elim .inl fun z => .inr (acc_sub shr z)) d v pv⟩
  | true =>
    obtain ⟨a, us, ds', f1, f2, f3, f4, f5⟩ := p.val
    subst f1
    have e1 : AX AV true (.ref a) = fun b => AV b ∨ b = a := by
      funext b
      apply propext
      exact ⟨fun z => z.elim .inl fun z => .inr (by cases z.2; rfl), fun z => z.elim .inl fun z => .inr ⟨rfl, by rw [z]⟩⟩
    have f5' := Reps.anti subY _ _ f5
    rw [e1] at R2 f5'
    exact ⟨a, us, ds', rfl, f2, f3, R2, f4, f5'⟩
end
section
variable {X : Cx} {C : Act} {e a b c : Expr} {es : List Expr} {pos p : Pos}
theorem ve_call {f : Addr} {fd : FuncData} {ps : List Str} {k n : Nat} {io : List Nat} {fs : FS} {wa : WA} {x : Str} (F : FnOk X.prog X.w X.K X.mg X.base CX0 k f fd ps (spOf X.K n io fs)) (hr : Room k X.A) (hm : X.mg x = some (.ref f)) (hk : PySem.W.keepIn X.K (.ref f) = true) (hb : Binds X.K fd ps [])
    (ha : VA X C (e :: es) wa) (hio : ∀ i ∈ io, i < n := by decide) (hnd : io.Nodup := by decide) (hg : Gl X x := by rfl) (hdb : (x == ("__debug__" : Str)) = false := by decide) (he : starEach (e :: es) X.env = (false, eval e X.env) :: starEach es X.env := by rfl) (hpl : (backTo pos (starEach es X.env)).any (·.1) = false := by rfl) :
    VE X C (.Call (.Name x p) (e :: es) [] pos) (wCall n io fs wa) := by
  refine PE.imp (pe_call F hr hg hm hk hb .nil (pass0 (X := X)) ha hdb he hpl) fun σ H Q ⟨Γ, AV, Qv, R, h, kq⟩ => ?_
  refine ⟨Γ, AV, fun as Γ1 => callW n io fs Γ1 as Qv, R, h, fun as Γ1 vs H1 q p1 ra => ?_⟩
  simp only [callW] at q
  cases z : cD io Γ1 0 as with
  | none => simp only [z] at q
  | some ds =>
    simp only [z] at q
    obtain ⟨hlen, nd, q⟩ := q
    have nd := nodupB_of nd
    rw [List.append_nil]
    have hio' : ∀ i ∈ io, i < as.length := fun i hi => by rw [hlen]; exact hio i hi
    refine ⟨ds, _, _, by rw [← argReps_len ra, hlen], call_pre p1.rel ra z nd hio' hnd, q, fun d fl outs v H' q2 p2 => ?_⟩
    obtain ⟨Γ2, q3, p3⟩ := call_post p1.rel ra z nd hio' p2 q2
    exact kq _ _ _ _ _ q3 (p1.post p3)
end
end VL

-- VI
/-! VI: what a for or a comprehension walks, over trees. -/
namespace VL
open PySem PySem.Spec L2 PyProof.Rows

/-- a source of items that stand in the heap as they are -/
theorem src_of {K : PySem.W.Frag} {J : It} {items : List D} {A : Addr → Prop} {H0 : Hp} {d : D} {v : V} (r : Rep K A H0 d v)
    (hgo : ∀ (i : Nat) H x, Rep K A H d v → items[i]? = some x → J.go i H ∧ ∀ u H', J.yld i H u H' → Step NoA H H' ∧ Rep K A H' x u)
    (hst : ∀ H, Rep K A H d v → J.stop items.length H) : Src K J items A H0 :=
  ⟨fun H => Rep K A H d v, r, fun B H H' g st hB => Rep.step st hB d v g, hgo, hst⟩
theorem src_lst {K : PySem.W.Frag} {A : Addr → Prop} {H0 : Hp} {ds : List D} {a : Addr} (r : Rep K A H0 (.lst ds) (.ref a)) : Src K (Itl K a) ds A H0 := by
  refine src_of r (fun i H x h e => ?_) fun H h => ?_
  · obtain ⟨b, vs, e0, _, q, rr⟩ := h
    cases e0
    obtain ⟨u, eu, ru⟩ := rr.get e
    exact ⟨⟨vs, u, SqL.of q, eu⟩, fun w H' ⟨e1, y⟩ => by
      subst e1
      have := y vs (SqL.of q)
      rw [eu] at this
      cases this
      exact ⟨Step.refl, ru⟩⟩
  · obtain ⟨b, vs, e0, _, q, rr⟩ := h
    cases e0
    exact ⟨vs, SqL.of q, by rw [← rr.length]; exact Nat.le_refl _⟩
theorem src_fz {K : PySem.W.Frag} {A : Addr → Prop} {H0 : Hp} {ds : List D} {a : Addr} (r : Rep K A H0 (.fz ds) (.ref a)) : Src K (Itl K a) ds A H0 := by
  refine src_of r (fun i H x h e => ?_) fun H h => ?_
  · obtain ⟨b, vs, e0, q, rr⟩ := h
    cases e0
    obtain ⟨u, eu, ru⟩ := rr.get e
    exact ⟨⟨vs, u, fz_sq q, eu⟩, fun w H' ⟨e1, y⟩ => by
      subst e1
      have := y vs (fz_sq q)
      rw [eu] at this
      cases this
      exact ⟨Step.refl, ru⟩⟩
  · obtain ⟨b, vs, e0, q, rr⟩ := h
    cases e0
    exact ⟨vs, fz_sq q, by rw [← rr.length]; exact Nat.le_refl _⟩
theorem src_tup {K : PySem.W.Frag} {A : Addr → Prop} {H0 : Hp} {ds : List D} {a : Addr} (r : Rep K A H0 (.tup ds) (.ref a)) : Src K (Itt K a) ds A H0 := by
  refine src_of r (fun i H x h e => ?_) fun H h => ?_
  · obtain ⟨b, vs, e0, q, rr⟩ := h
    cases e0
    obtain ⟨u, eu, ru⟩ := rr.get e
    exact ⟨⟨vs, u, q, eu⟩, fun w H' ⟨e1, y⟩ => by
      subst e1
      have := y vs q
      rw [eu] at this
      cases this
      exact ⟨Step.refl, ru⟩⟩
  · obtain ⟨b, vs, e0, q, rr⟩ := h
    cases e0
    exact ⟨vs, q, by rw [← rr.length]; exact Nat.le_refl _⟩
section
variable {X : Cx} {C : Act} {e a b c tg iter elt ie : Expr} {es : List Expr} {pos p2 apos cpos p tpos : Pos} {elts : List Expr} {kk : Nat}

/-! ### a list, a tuple -/
def itSeq (tl : TE) (K : PySem.W.Frag) : TI := fun σ H R => tl σ H fun x H1 => ∃ q, x = .ref q ∧ (((∃ xs, SqL K H1 q xs) ∧ R (Itl K q) H1) ∨ ((∃ xs, SqT K H1 q xs) ∧ R (Itt K q) H1))
theorem pi_seq {tl : TE} (hl : PE X e tl) : PI X tg e (itSeq tl X.K) := by
  constructor
  intro pins s σ H R I h
  refine thn (hl.run pins s σ H _ I h) fun v s1 ⟨x, H1, I1, r1, q, ex, q1⟩ => ?_
  subst ex
  cases r1
  have fresh : ∀ b ∈ [s1.heap.objs.size], FpOk X pins H1 b := fun b hb => by
    rw [List.mem_singleton] at hb
    rw [hb]
    exact I1.fpOk (Nat.le_refl _) (I1.hok.fresh (Nat.le_refl _))
  have kept : ∀ o, Inv X pins σ H1 { s1 with heap := s1.heap.push o, toks := s1.toks } := fun o => I1.kept fun _ _ e => Heap.get?_push_of_some _ e
  rcases q1 with ⟨⟨xs, hq⟩, q1⟩ | ⟨⟨xs, hq⟩, q1⟩
  · obtain ⟨its, _, pl, _⟩ := I1.list hq
    exact wpAny_pyIter_list pl.isList ⟨_, _, _, _, H1, rfl, kept _, turn_list q _, ⟨_, Heap.get?_push_size _ rfl, rfl, rfl⟩, fresh, q1⟩
  · obtain ⟨its, _, pl, _⟩ := I1.tuple hq
    exact wpAny_pyIter_tuple (items := its.toArray) pl ⟨_, _, _, _, H1, rfl, kept _, turn_tuple q _, ⟨_, Heap.get?_push_size _ rfl, rfl, rfl⟩, fresh, q1⟩
def iSeq (w : WE) : WI := fun Γ Q => w Γ fun d _ Γ' => match d with
  | .lst ds => Q ds Γ'
  | .tup ds => Q ds Γ'
  | .fz ds => Q ds Γ'
  | _ => False
theorem fresh_rep {K : PySem.W.Frag} {A : Addr → Prop} {H : Hp} {d : D} {v : V} (r : Rep K A H d v) : Rep K (fun b => A b ∨ H b = none) H d v := Rep.fresh d v r
theorem vi_seq {w : WE} (h : VE X C iter w) : VI X C tg iter (iSeq w) := by
  refine PI.imp (pi_seq h) fun σ H R ⟨Γ, AV, Qv, Rl, h, k⟩ => ⟨Γ, AV, _, Rl, h, fun d fl Γ' v H' q p => ?_⟩
  have pt := p.t Rl
  have r := fresh_rep (p.rel Rl).2
  cases d <;> try exact q.elim
  · obtain ⟨b, vs, rfl, q1, q2⟩ := id r
    exact ⟨b, rfl, .inr ⟨⟨vs, q1⟩, k _ _ _ _ q pt (src_tup r)⟩⟩
  · obtain ⟨b, vs, rfl, _, q1, q2⟩ := id r
    exact ⟨b, rfl, .inl ⟨⟨vs, SqL.of q1⟩, k _ _ _ _ q pt (src_lst r)⟩⟩
  · obtain ⟨b, vs, rfl, q1, q2⟩ := id r
    exact ⟨b, rfl, .inl ⟨⟨vs, fz_sq (A := fun b => AvA AV Γ' σ b ∨ H' b = none) q1⟩, k _ _ _ _ q pt (src_fz r)⟩⟩

/-! ### ranges -/
def allI (Γ : G) : List Arg → Option (List Int)
  | [] => some []
  | a :: as => match argD Γ a, allI Γ as with
    | some (.int i), some is => some (i :: is)
    | _, _ => none
theorem allI_of {K : PySem.W.Frag} {AV : Addr → Prop} {Γ : G} {σ : L2.St} {H : Hp} (R : Rel K C AV Γ σ H) : ∀ {as : List Arg} {vs : List V} {is : List Int}, ArgReps K (AvA AV Γ σ) Γ σ H as vs → allI Γ as = some is → vs = is.map V.int
  | [], vs, is, r, e => by cases r; cases e; rfl
  | a :: as, vs, is, r, e => by
    obtain ⟨v, us, rfl, r1, r2⟩ := r
    unfold allI at e
    split at e
    · rename_i i is' h1 h2
      cases e
      have := R.argT r1 h1
      have this : v = .int i := this
      subst this
      rw [allI_of R r2 h2]; rfl
    · cases e
def smallI (i : Int) : Prop := -1000000000 < i ∧ i < 1000000000
/-- lo, lo + c, .. -/
def rgD (lo c : Int) (n : Nat) : List D := (List.range n).map fun (k : Nat) => D.int (lo + (k : Int) * c)
theorem rgD_len {lo c : Int} {n : Nat} : (rgD lo c n).length = n := by simp [rgD]
theorem rgD_get {lo c : Int} {n i : Nat} {d : D} (e : (rgD lo c n)[i]? = some d) : i < n ∧ d = .int (lo + (i : Int) * c) := by
  unfold rgD at e
  rw [List.getElem?_map] at e
  cases z : (List.range n)[i]? with
  | none => rw [z] at e; cases e
  | some k =>
    rw [z] at e
    obtain ⟨h1, h2⟩ := List.getElem?_eq_some_iff.mp z
    rw [List.length_range] at h1
    rw [List.getElem_range] at h2
    subst h2
    exact ⟨h1, (Option.some.inj e).symm⟩
def iRange1 (wa : WA) : WI := fun Γ Q => wa Γ fun as Γ' => match allI Γ' as with
  | some [j] => smallI j ∧ Q (rgD 0 1 j.toNat) Γ'
  | _ => False
def iRange2 (wa : WA) : WI := fun Γ Q => wa Γ fun as Γ' => match allI Γ' as with
  | some [i, j] => smallI i ∧ smallI j ∧ Q (rgD i 1 (j - i).toNat) Γ'
  | _ => False
/-- downwards by ones -/
def iRange3 (wa : WA) : WI := fun Γ Q => wa Γ fun as Γ' => match allI Γ' as with
  | some [i, j, c] => smallI i ∧ smallI j ∧ c = -1 ∧ Q (rgD i (-1) (i - j).toNat) Γ'
  | _ => False
theorem src_rng {K : PySem.W.Frag} {A : Addr → Prop} {H : Hp} {lo : Int} {n : Nat} : Src K (Itr lo n) (rgD lo 1 n) A H := by
  refine ⟨fun _ => True, trivial, fun _ _ _ _ _ _ => trivial, fun i H d _ e => ?_, fun H _ => by rw [rgD_len]; exact Nat.le_refl _⟩
  obtain ⟨h1, rfl⟩ := rgD_get e
  exact ⟨h1, fun x H' ⟨e1, e2⟩ => by
    subst e1 e2
    exact ⟨Step.refl, by rw [Int.mul_one]; exact rfl⟩⟩
theorem src_rngC {K : PySem.W.Frag} {A : Addr → Prop} {H : Hp} {lo c : Int} {n : Nat} : Src K (Itc lo c n) (rgD lo c n) A H := by
  refine ⟨fun _ => True, trivial, fun _ _ _ _ _ _ => trivial, fun i H d _ e => ?_, fun H _ => by rw [rgD_len]; exact Nat.le_refl _⟩
  obtain ⟨h1, rfl⟩ := rgD_get e
  exact ⟨h1, fun x H' ⟨e1, e2⟩ => by
    subst e1 e2
    exact ⟨Step.refl, rfl⟩⟩
theorem vi_range1 {wa : WA} (hm : X.mg "range" = none) (ha : VA X C [a] wa) (hg : Gl X "range" := by rfl) (hs : starEach [a] X.env = [(false, eval a X.env)] := by rfl) : VI X C tg (.Call (.Name "range" p) [a] [] pos) (iRange1 wa) := by
  refine PI.imp (pi_range1 hg hm ha hs) fun σ H R ⟨Γ, AV, Qv, Rl, h, k⟩ => ⟨Γ, AV, _, Rl, h, fun as Γ' vs H' q p r => ?_⟩
  split at q
  · rename_i j z
    exact ⟨j, allI_of p.rel r z, by have := q.1.1; omega, by have := q.1.2; omega, k _ _ _ _ q.2 p src_rng⟩
  · exact q.elim
theorem vi_range2 {wa : WA} (hm : X.mg "range" = none) (ha : VA X C [a, b] wa) (hg : Gl X "range" := by rfl) (hs : starEach [a, b] X.env = [(false, eval a X.env), (false, eval b X.env)] := by rfl) (hs2 : starEach [b] X.env = [(false, eval b X.env)] := by rfl) :
    VI X C tg (.Call (.Name "range" p) [a, b] [] pos) (iRange2 wa) := by
  refine PI.imp (pi_range2 hg hm ha hs hs2) fun σ H R ⟨Γ, AV, Qv, Rl, h, k⟩ => ⟨Γ, AV, _, Rl, h, fun as Γ' vs H' q p r => ?_⟩
  split at q
  · rename_i i j z
    exact ⟨i, j, allI_of p.rel r z, ⟨by have := q.1.1; omega, by have := q.1.2; omega, by have := q.2.1.1; omega, by have := q.2.1.2; omega⟩, k _ _ _ _ q.2.2 p src_rng⟩
  · exact q.elim
theorem vi_range3 {wa : WA} (hm : X.mg "range" = none) (ha : VA X C [a, b, c] wa) (hg : Gl X "range" := by rfl) (hs : starEach [a, b, c] X.env = (false, eval a X.env) :: starEach [b, c] X.env := by rfl) (hpl : (backTo pos (starEach [b, c] X.env)).any (·.1) = false := by rfl) :
    VI X C tg (.Call (.Name "range" p) [a, b, c] [] pos) (iRange3 wa) := by
  refine PI.imp (pi_range3 hg hm ha hs hpl) fun σ H R ⟨Γ, AV, Qv, Rl, h, k⟩ => ⟨Γ, AV, _, Rl, h, fun as Γ' vs H' q p r => ?_⟩
  split at q
  · rename_i i j c z
    obtain ⟨q1, q2, rfl, q⟩ := q
    exact ⟨i, j, -1, _, allI_of p.rel r z, RgC.neg (by have := q1.1; omega) (by have := q1.2; omega) (by have := q2.1; omega) (by have := q2.2; omega), k _ _ _ _ q p src_rngC⟩
  · exact q.elim

/-! ### what hands out new tuples -/
/-- a list (false) or a tuple (true) that is read -/
def SqS (K : PySem.W.Frag) (H : Hp) (a : Addr) (xs : List V) : Bool → Prop
  | false => SqL K H a xs
  | true => SqT K H a xs
def SqIt (h : Heap) (it a : Addr) (i : Nat) : Bool → Prop
  | false => h.IsListIter it a i
  | true => h.IsTupleIter it a i
def SqOb (h : Heap) (a : Addr) (items : Array Value) : Bool → Prop
  | false => h.IsList a items
  | true => h.IsTuple a items
def itObj (a : Addr) : Bool → Obj
  | false => { cls := .type "list_iterator", data := .fields #[.ref a, .int 0 0] }
  | true => { cls := .type "tuple_iterator", data := .fields #[.ref a, .int 0 0] }
theorem draws_sq {prog : Program} {w : World} {A : Around} (hh : A.handled = none) (it a : Addr) (hne : a ≠ it) (items : Array Value) (t : Bool) :
    Draws prog w A it [it, a] items.size (fun i v => items[i]? = some v) (fun i h => SqIt h it a i t ∧ SqOb h a items t) := by
  cases t with
  | false => exact Draws.list hh it a hne items
  | true => exact Draws.tuple hh it a hne items
theorem begins_sq (a : Addr) (items : Array Value) (t : Bool) : Begins (.ref a) (itObj a t) (fun h => SqOb h a items t) := by
  cases t with
  | false => exact begins_list a items
  | true => exact begins_tuple a items
theorem SqIt.obj {h : Heap} {it a : Addr} {i : Nat} {t : Bool} (x : SqIt h it a i t) : ∃ o, h.get? it = some o ∧ ∀ v, o.data ≠ .cell v := by
  cases t <;> (obtain ⟨o, e, _, d⟩ := x; exact ⟨o, e, fun v z => by rw [d] at z; cases z⟩)
theorem SqIt.at {h h' : Heap} {it a : Addr} {i : Nat} {t : Bool} (x : SqIt h it a i t) (k : ∀ o, h.get? it = some o → h'.get? it = some o) : SqIt h' it a i t := by
  cases t <;> (obtain ⟨o, e, r⟩ := x; exact ⟨o, k o e, r⟩)
theorem SqIt.new {h : Heap} {it a : Addr} {t : Bool} (e : h.get? it = some (itObj a t)) : SqIt h it a 0 t := by
  cases t <;> exact ⟨_, e, rfl, rfl⟩
theorem Inv.sq {pins : List (Addr × Obj)} {σ : L2.St} {H : Hp} {s : Shared} {a : Addr} {xs : List V} {t : Bool} (I : Inv X pins σ H s) (h : SqS X.K H a xs t) : ∃ its : List Value, Vals xs its ∧ SqOb s.heap a its.toArray t := by
  cases t with
  | false =>
    obtain ⟨its, r, pl, _⟩ := I.list h
    exact ⟨its, r, pl.isList⟩
  | true =>
    obtain ⟨its, r, pl, _⟩ := I.tuple h
    exact ⟨its, r, pl⟩
theorem Inv.sq_inj {pins : List (Addr × Obj)} {σ : L2.St} {H : Hp} {s : Shared} {a : Addr} {xs ys : List V} {t : Bool} (I : Inv X pins σ H s) (h : SqS X.K H a xs t) (h' : SqS X.K H a ys t) : xs = ys := by
  cases t with
  | false => exact I.list_inj h h'
  | true => exact I.tuple_inj h h'
theorem SqOb.lt {h : Heap} {a : Addr} {items : Array Value} {t : Bool} (x : SqOb h a items t) : a < h.objs.size := by
  cases t <;> (obtain ⟨o, e, _⟩ := x; exact Heap.lt_size e)
/-- the tuples of the i-th items (behind f i), n of them -/
def Itn (K : PySem.W.Frag) (L : List (Addr × Bool)) (f : Nat → List V) (n : Nat) : It :=
  ⟨fun i H => i < n ∧ ∀ q ∈ L, ∃ xs, SqS K H q.1 xs q.2 ∧ n ≤ xs.length,
   fun i H x H' => ∃ T vs, x = .ref T ∧ H T = none ∧ H' = upd H T (.tup (f i ++ vs)) ∧ vs.length = L.length ∧ ∀ (k : Nat) q v, L[k]? = some q → vs[k]? = some v → ∀ xs, SqS K H q.1 xs q.2 → xs[i]? = some v,
   fun i H => i = n ∧ (∀ q ∈ L, ∃ xs, SqS K H q.1 xs q.2 ∧ n ≤ xs.length) ∧ ∃ q ∈ L, ∃ xs, SqS K H q.1 xs q.2 ∧ xs.length = n⟩
/-- the items of a source of trees -/
def seqD : D → Option (List D × Bool)
  | .lst ds => some (ds, false)
  | .tup ds => some (ds, true)
  | .fz ds => some (ds, false)
  | _ => none
theorem rep_sq {K : PySem.W.Frag} {A : Addr → Prop} {H : Hp} {d : D} {v : V} {ds : List D} {t : Bool} (e : seqD d = some (ds, t)) (r : Rep K A H d v) : ∃ a vs, v = .ref a ∧ SqS K H a vs t ∧ Reps K A H ds vs := by
  cases d <;> cases e
  · obtain ⟨a, vs, e1, q, rr⟩ := r
    exact ⟨a, vs, e1, q, rr⟩
  · obtain ⟨a, vs, e1, _, q, rr⟩ := r
    exact ⟨a, vs, e1, SqL.of q, rr⟩
  · obtain ⟨a, vs, e1, q, rr⟩ := r
    exact ⟨a, vs, e1, fz_sq q, rr⟩
/-- sources that stand as they are -/
structure Srcs (K : PySem.W.Frag) (A : Addr → Prop) (H : Hp) (L : List (Addr × Bool)) (dss : List D) : Prop where
  len : L.length = dss.length
  get : ∀ (k : Nat) q d, L[k]? = some q → dss[k]? = some d → ∃ ds vs, seqD d = some (ds, q.2) ∧ SqS K H q.1 vs q.2 ∧ Reps K A H ds vs ∧ Rep K A H d (.ref q.1)
theorem Srcs.step {K : PySem.W.Frag} {A B : Addr → Prop} {H H' : Hp} {L : List (Addr × Bool)} {dss : List D} (x : Srcs K A H L dss) (st : Step B H H') (hB : ∀ b, B b → A b) : Srcs K A H' L dss :=
  ⟨x.len, fun k q d h1 h2 => by
    obtain ⟨ds, vs, e, _, _, r⟩ := x.get k q d h1 h2
    have r2 := Rep.step st hB d _ r
    obtain ⟨a, us, e1, q1, q2⟩ := rep_sq e r2
    cases e1
    exact ⟨ds, us, e, q1, q2, r2⟩⟩
theorem src_n {K : PySem.W.Frag} {A : Addr → Prop} {H0 : Hp} {L : List (Addr × Bool)} {dss : List D} {f : Nat → List V} {fD : Nat → List D} {items : List D} (x : Srcs K A H0 L dss) (hf : ∀ i H, Reps K A H (fD i) (f i))
    (hi : ∀ (i : Nat) d, items[i]? = some d → ∃ es, d = .tup (fD i ++ es) ∧ es.length = dss.length ∧ ∀ (k : Nat) e, es[k]? = some e → ∃ d' ds t, dss[k]? = some d' ∧ seqD d' = some (ds, t) ∧ ds[i]? = some e)
    (hn : ∀ (k : Nat) d, dss[k]? = some d → ∃ ds t, seqD d = some (ds, t) ∧ items.length ≤ ds.length) (he : ∃ (k : Nat) (d : D) (ds : List D) (t : Bool), dss[k]? = some d ∧ seqD d = some (ds, t) ∧ ds.length = items.length) : Src K (Itn K L f items.length) items A H0 := by
  have allLen : ∀ H, Srcs K A H L dss → ∀ q ∈ L, ∃ xs, SqS K H q.1 xs q.2 ∧ items.length ≤ xs.length := fun H h q hq => by
    obtain ⟨k, ek⟩ := List.getElem?_of_mem hq
    obtain ⟨d, ed⟩ : ∃ d, dss[k]? = some d := ⟨_, List.getElem?_eq_getElem (by rw [← h.len]; exact (List.getElem?_eq_some_iff.mp ek).1)⟩
    obtain ⟨ds, vs, e1, q1, r1, _⟩ := h.get k q d ek ed
    obtain ⟨ds', t, e2, hl⟩ := hn k d ed
    rw [e1] at e2; cases e2
    exact ⟨vs, q1, by rw [← r1.length]; exact hl⟩
  refine ⟨fun H => Srcs K A H L dss, x, fun B H H' h st hB => h.step st hB, fun i H d h e => ⟨⟨(List.getElem?_eq_some_iff.mp e).1, allLen H h⟩, fun u H' ⟨T, vs, e1, hT, e2, hl, hv⟩ => ?_⟩, fun H h => ⟨rfl, allLen H h, ?_⟩⟩
  · subst e1 e2
    have st : Step NoA H (upd H T (.tup (f i ++ vs))) := Step.new hT
    refine ⟨st, ?_⟩
    obtain ⟨es, e3, e4, e5⟩ := hi i d e
    subst e3
    refine ⟨T, _, rfl, .inl (.inl upd_same), Reps.step st noA _ _ (Reps.append (hf i H) ?_)⟩
    have key : ∀ (es : List D) (vs : List V), es.length = vs.length → (∀ (k : Nat) e v, es[k]? = some e → vs[k]? = some v → Rep K A H e v) → Reps K A H es vs := fun es => by
      induction es with
      | nil => intro vs hl _; exact List.eq_nil_of_length_eq_zero hl.symm
      | cons e es ih =>
        intro vs hl h
        cases vs with
        | nil => cases hl
        | cons v vs => exact ⟨v, vs, rfl, h 0 e v rfl rfl, ih vs (by simpa using hl) fun k e' v' h1 h2 => h (k + 1) e' v' (by simpa using h1) (by simpa using h2)⟩
    refine key es vs (by rw [e4, hl, h.len]) fun k e' v' h1 h2 => ?_
    obtain ⟨d', ds, t, f1, f2, f3⟩ := e5 k e' h1
    obtain ⟨q, eq⟩ : ∃ q, L[k]? = some q := ⟨_, List.getElem?_eq_getElem (by rw [h.len]; exact (List.getElem?_eq_some_iff.mp f1).1)⟩
    obtain ⟨ds', us, g1, g2, g3, _⟩ := h.get k q d' eq f1
    rw [f2] at g1; cases g1
    obtain ⟨u, eu, ru⟩ := g3.get f3
    have := hv k q v' eq h2 us g2
    rw [eu] at this; cases this
    exact ru
  · obtain ⟨k, d, ds, t, f1, f2, f3⟩ := he
    obtain ⟨q, eq⟩ : ∃ q, L[k]? = some q := ⟨_, List.getElem?_eq_getElem (by rw [h.len]; exact (List.getElem?_eq_some_iff.mp f1).1)⟩
    obtain ⟨ds', us, g1, g2, g3, _⟩ := h.get k q d eq f1
    rw [f2] at g1; cases g1
    exact ⟨q, List.mem_of_getElem? eq, us, g2, by rw [← g3.length]; exact f3⟩
end
end VL

-- VJ
/-! VJ: enumerate, zip of two, of three, over lists and tuples alike. -/
namespace VL
open PySem PySem.Spec L2 PyProof.Rows
section
variable {P : Program} {w : World} {K : PySem.W.Frag} {elts : List Expr} {kk : Nat} {tpos : Pos}
theorem one_mem {a : Addr} {t : Bool} {Pq : Addr × Bool → Prop} (h : ∀ q ∈ [(a, t)], Pq q) : Pq (a, t) := h _ (by simp)
/-- a new tuple handed out by a next -/
theorem tup_out {X : Cx} {pins : List (Addr × Obj)} {σ : L2.St} {H : Hp} {s : Shared} {ch : List Addr} {h' : Heap} {tk : Nat} {T : Addr} {us : List Value} {vs : List V} (I : Inv X pins σ H s) (hf : ∀ b ∈ ch, FpOk X pins H b)
    (hk : ∀ b o, b ∉ ch → s.heap.get? b = some o → h'.get? b = some o) (hT : s.heap.objs.size ≤ T) (ht : h'.IsTuple T us.toArray) (hz : us.length ≤ 100) (r : Vals vs us) : Inv X pins σ (upd H T (.tup vs)) { s with heap := h', toks := tk } :=
  I.turnedNew hk hf hT ⟨by rw [r.length, sizeLine_eq]; omega, us, r, ht⟩
theorem fp_none {X : Cx} {pins : List (Addr × Obj)} {H : Hp} {h : Heap} {b T : Addr} {ob : HO} (hf : FpOk X pins H b) (e : ∃ o, h.get? b = some o) (hT : h.objs.size ≤ T) : upd H T ob b = none := by
  obtain ⟨o, e⟩ := e
  rw [upd_ne (Nat.ne_of_lt (Nat.lt_of_lt_of_le (Heap.lt_size e) hT))]
  exact hf.1
/-- what is read of a source at a turn -/
theorem at_turn {X : Cx} {pins : List (Addr × Obj)} {σ : L2.St} {H : Hp} {s : Shared} {a : Addr} {t : Bool} {xs : List V} {its : List Value} {i : Nat} {x : Value} (hlt : i < xs.length) (rv : Vals xs its) (hit : its.toArray[i]? = some x) : ∃ y, xs[i]? = some y ∧ RelV y x := by
  obtain ⟨y, ey⟩ : ∃ y, xs[i]? = some y := ⟨_, List.getElem?_eq_getElem hlt⟩
  obtain ⟨u, eu, ru⟩ := rv.get ey
  rw [show its.toArray[i]? = its[i]? by simp] at hit
  rw [hit] at eu; cases eu
  exact ⟨y, ey, ru⟩
theorem turn_enumN {a e it : Addr} {t : Bool} {n : Nat} (hae : a ≠ e) (hai : a ≠ it) (hei : e ≠ it) :
    Turn P w K (.Tuple elts kk tpos) (Itn K [(a, t)] (fun i => [.int (i : Nat)]) n) [e, it] e (fun i h => (∃ old, IsEnum h e it (0 + (i : Int)) old) ∧ SqIt h it a i t) := by
  have hef : e ∉ [it, a] := by simp [hei, Ne.symm hae]
  constructor
  · simp
  · intro i h ⟨⟨old, he⟩, hi⟩ b hb
    rcases (show b = e ∨ b = it by simpa using hb) with rfl | rfl
    · exact ⟨_, he, fun v z => nomatch z⟩
    · exact hi.obj
  · intro i h h' ⟨⟨old, he⟩, hi⟩ k
    exact ⟨⟨old, k e (by simp) _ he⟩, hi.at fun o z => k it (by simp) o z⟩
  · intro X hP hw hK hc i pins s σ H E I hf ⟨he, hi⟩ ⟨hlt, hall⟩
    subst hP hw hK
    obtain ⟨xs, hx, hn⟩ := one_mem hall
    obtain ⟨its, rv, ob⟩ := Inv.sq I hx
    have hsz : its.toArray.size = xs.length := by rw [List.size_toArray, rv.length]
    have D := draws_sq (prog := X.prog) (w := X.w) (A := X.A.in1) (I.ok.hd hc) it a hai its.toArray t
    refine (GoesN.enumFrom (elts := elts) (x1 := kk) (pos := tpos) 0 D e hei hef (by simp)).goes i s _ _ (by rw [hsz]; omega) ⟨he, hi, ob⟩ fun v h' tk ⟨T, t', x, ev, hT, hit, htup⟩ ⟨he', hi', _⟩ hk _ => ?_
    obtain ⟨y, ey, ry⟩ : ∃ y, xs[i]? = some y ∧ RelV y x := by
      obtain ⟨y, ey⟩ : ∃ y, xs[i]? = some y := ⟨_, List.getElem?_eq_getElem (by omega)⟩
      obtain ⟨u, eu, ru⟩ := rv.get ey
      rw [show its.toArray[i]? = its[i]? by simp] at hit
      rw [hit] at eu; cases eu
      exact ⟨y, ey, ru⟩
    have hTn : H T = none := I.hok.fresh hT
    have I1 : Inv X pins σ (upd H T (.tup [.int (i : Nat), y])) { s with heap := h', toks := tk } := tup_out I hf hk hT (us := [.int (0 + (i : Int)) t', x]) htup (by simp) (.cons ⟨t', by simp⟩ (.cons ry .nil))
    refine ⟨.ref T, _, I1, ev, ⟨T, [y], rfl, hTn, rfl, rfl, fun k q v' h1 h2 ys hy => ?_⟩, ⟨?_, hi'⟩, fun b hb => ?_⟩
    · cases k with
      | zero =>
        cases h1; cases h2
        rw [Inv.sq_inj I hy hx]; exact ey
      | succ k => simp at h1
    · exact he'
    · refine fp_none (hf b hb) ?_ hT
      rcases (show b = e ∨ b = it by simpa using hb) with rfl | rfl
      · obtain ⟨old, z⟩ := he; exact ⟨_, z⟩
      · obtain ⟨o, z, _⟩ := hi.obj; exact ⟨o, z⟩
  · intro X hP hw hK hc i pins s σ H E I hf ⟨he, hi⟩ ⟨hin, hall, q, hq, xs, hx, hxn⟩
    subst hP hw hK
    have hq' : q = (a, t) := by simpa using hq
    subst hq'
    obtain ⟨its, rv, ob⟩ := Inv.sq I hx
    have hsz : its.toArray.size = i := by rw [List.size_toArray, ← rv.length, hxn, hin]
    have D := draws_sq (prog := X.prog) (w := X.w) (A := X.A.in1) (I.ok.hd hc) it a hai its.toArray t
    refine (GoesN.enumFrom (elts := elts) (x1 := kk) (pos := tpos) 0 D e hei hef (by simp)).stops s _ _ ⟨by rw [hsz]; exact he, by rw [hsz]; exact hi, ob⟩ fun h' tk hk _ => ?_
    exact I.turnedL hk hf
  · intro A i s Q E ⟨⟨old, he⟩, _⟩ h
    exact wpAny_pyIter_enum he h
theorem turn_zip2N {a b z TI TO i1 i2 : Addr} {t u : Bool} {n : Nat} (S : ZipSep2 z TI TO i1 i2 [i1, a] [i2, b]) (hai : a ≠ i1) (hbi : b ≠ i2) :
    Turn P w K (.Tuple elts kk tpos) (Itn K [(a, t), (b, u)] (fun _ => []) n) [z, TI, TO, i1, i2] z
      (fun i h => IsZip h z TI TO .none ∧ IsTupOf2 h TI (.ref i1) (.ref i2) ∧ (∃ a1 a2, IsTupOf2 h TO a1 a2) ∧ SqIt h i1 a i t ∧ SqIt h i2 b i u) := by
  have cases5 : ∀ {c : Addr}, c ∈ [z, TI, TO, i1, i2] → c = z ∨ c = TI ∨ c = TO ∨ c = i1 ∨ c = i2 := fun h => by simpa using h
  have there : ∀ {i : Nat} {h : Heap}, (IsZip h z TI TO .none ∧ IsTupOf2 h TI (.ref i1) (.ref i2) ∧ (∃ a1 a2, IsTupOf2 h TO a1 a2) ∧ SqIt h i1 a i t ∧ SqIt h i2 b i u) → ∀ c ∈ [z, TI, TO, i1, i2], ∃ o, h.get? c = some o ∧ ∀ v, o.data ≠ .cell v := fun {i h} ⟨h1, h2, ⟨_, _, h3⟩, h4, h5⟩ c hc => by
    rcases cases5 hc with rfl | rfl | rfl | rfl | rfl
    · exact ⟨_, h1, fun v q => nomatch q⟩
    · exact ⟨_, h2, fun v q => nomatch q⟩
    · exact ⟨_, h3, fun v q => nomatch q⟩
    · exact h4.obj
    · exact h5.obj
  constructor
  · simp
  · exact fun i h st c hc => there st c hc
  · intro i h h' ⟨h1, h2, ⟨x1, x2, h3⟩, h4, h5⟩ k
    exact ⟨k z (by simp) _ h1, k TI (by simp) _ h2, ⟨x1, x2, k TO (by simp) _ h3⟩, h4.at fun o q => k i1 (by simp) o q, h5.at fun o q => k i2 (by simp) o q⟩
  · intro X hP hw hK hc i pins s σ H E I hf st ⟨hlt, hall⟩
    subst hP hw hK
    obtain ⟨xs, hx, hn⟩ := hall (a, t) (by simp)
    obtain ⟨ys, hy, hm⟩ := hall (b, u) (by simp)
    obtain ⟨its, rx, ob1⟩ := Inv.sq I hx
    obtain ⟨jts, ry, ob2⟩ := Inv.sq I hy
    have s1 : its.toArray.size = xs.length := by rw [List.size_toArray, rx.length]
    have s2 : jts.toArray.size = ys.length := by rw [List.size_toArray, ry.length]
    have D1 := draws_sq (prog := X.prog) (w := X.w) (A := X.A.in1) (I.ok.hd hc) i1 a hai its.toArray t
    have D2 := draws_sq (prog := X.prog) (w := X.w) (A := X.A.in1) (I.ok.hd hc) i2 b hbi jts.toArray u
    obtain ⟨g1, g2, g3, g4, g5⟩ := id st
    refine (GoesN.zip2 (elts := elts) (x1 := kk) (pos := tpos) S D1 D2).goes i s _ _ (by rw [s1, s2]; omega) ⟨g1, g2, g3, ⟨g4, ob1⟩, ⟨g5, ob2⟩⟩ fun v h' tk ⟨T, x, y, ev, hT, hit1, hit2, htup⟩ ⟨f1, f2, f3, ⟨f4, _⟩, ⟨f5, _⟩⟩ hk _ => ?_
    have hk' : ∀ c o, c ∉ [z, TI, TO, i1, i2] → s.heap.get? c = some o → h'.get? c = some o := fun c o hc e => hk c o (fun q => hc (by simp at q ⊢; rcases q with q | q | q | q <;> simp [q])) e
    obtain ⟨p, ep, rp⟩ := at_turn (X := X) (pins := pins) (σ := σ) (H := H) (s := s) (a := a) (t := t) (by omega) rx hit1
    obtain ⟨q, eq, rq⟩ := at_turn (X := X) (pins := pins) (σ := σ) (H := H) (s := s) (a := b) (t := u) (by omega) ry hit2
    have I1 : Inv X pins σ (upd H T (.tup [p, q])) { s with heap := h', toks := tk } := tup_out I hf hk' hT (us := [x, y]) htup (by simp) (.cons rp (.cons rq .nil))
    refine ⟨.ref T, _, I1, ev, ⟨T, [p, q], rfl, I.hok.fresh hT, rfl, rfl, fun k r v' h1 h2 zs hz => ?_⟩, ⟨f1, f2, f3, f4, f5⟩, fun c hc => fp_none (hf c hc) (let ⟨o, e, _⟩ := there st c hc; ⟨o, e⟩) hT⟩
    match k with
    | 0 => cases h1; cases h2; rw [Inv.sq_inj I hz hx]; exact ep
    | 1 => cases h1; cases h2; rw [Inv.sq_inj I hz hy]; exact eq
    | k + 2 => simp at h1
  · intro X hP hw hK hc i pins s σ H E I hf st ⟨hin, hall, r, hr, zs, hz, hzn⟩
    subst hP hw hK
    obtain ⟨xs, hx, hn⟩ := hall (a, t) (by simp)
    obtain ⟨ys, hy, hm⟩ := hall (b, u) (by simp)
    obtain ⟨its, rx, ob1⟩ := Inv.sq I hx
    obtain ⟨jts, ry, ob2⟩ := Inv.sq I hy
    have s1 : its.toArray.size = xs.length := by rw [List.size_toArray, rx.length]
    have s2 : jts.toArray.size = ys.length := by rw [List.size_toArray, ry.length]
    have hmin : min its.toArray.size jts.toArray.size = i := by
      rcases (show r = (a, t) ∨ r = (b, u) by simpa using hr) with rfl | rfl
      · have := Inv.sq_inj I hz hx; subst this; omega
      · have := Inv.sq_inj I hz hy; subst this; omega
    have D1 := draws_sq (prog := X.prog) (w := X.w) (A := X.A.in1) (I.ok.hd hc) i1 a hai its.toArray t
    have D2 := draws_sq (prog := X.prog) (w := X.w) (A := X.A.in1) (I.ok.hd hc) i2 b hbi jts.toArray u
    obtain ⟨g1, g2, g3, g4, g5⟩ := id st
    refine (GoesN.zip2 (elts := elts) (x1 := kk) (pos := tpos) S D1 D2).stops s _ _ (by rw [hmin]; exact ⟨g1, g2, g3, ⟨g4, ob1⟩, ⟨g5, ob2⟩⟩) fun h' tk hk _ => ?_
    exact I.turnedL (fun c o hc e => hk c o (fun q => hc (by simp at q ⊢; rcases q with q | q | q | q <;> simp [q])) e) hf
  · intro A i s Q E st h
    exact wpAny_pyIter_zip st.1 h
theorem turn_zip3N {a b c z TI TO i1 i2 i3 : Addr} {t u v : Bool} {n : Nat} (S : ZipSep3 z TI TO i1 i2 i3 [i1, a] [i2, b] [i3, c]) (hai : a ≠ i1) (hbi : b ≠ i2) (hci : c ≠ i3) :
    Turn P w K (.Tuple elts kk tpos) (Itn K [(a, t), (b, u), (c, v)] (fun _ => []) n) [z, TI, TO, i1, i2, i3] z
      (fun i h => IsZip h z TI TO .none ∧ IsTupOf3 h TI (.ref i1) (.ref i2) (.ref i3) ∧ (∃ a1 a2 a3, IsTupOf3 h TO a1 a2 a3) ∧ SqIt h i1 a i t ∧ SqIt h i2 b i u ∧ SqIt h i3 c i v) := by
  have cases6 : ∀ {d : Addr}, d ∈ [z, TI, TO, i1, i2, i3] → d = z ∨ d = TI ∨ d = TO ∨ d = i1 ∨ d = i2 ∨ d = i3 := fun h => by simpa using h
  have there : ∀ {i : Nat} {h : Heap}, (IsZip h z TI TO .none ∧ IsTupOf3 h TI (.ref i1) (.ref i2) (.ref i3) ∧ (∃ a1 a2 a3, IsTupOf3 h TO a1 a2 a3) ∧ SqIt h i1 a i t ∧ SqIt h i2 b i u ∧ SqIt h i3 c i v) → ∀ d ∈ [z, TI, TO, i1, i2, i3], ∃ o, h.get? d = some o ∧ ∀ v, o.data ≠ .cell v := fun {i h} ⟨h1, h2, ⟨_, _, _, h3⟩, h4, h5, h6⟩ d hd => by
    rcases cases6 hd with rfl | rfl | rfl | rfl | rfl | rfl
    · exact ⟨_, h1, fun v q => nomatch q⟩
    · exact ⟨_, h2, fun v q => nomatch q⟩
    · exact ⟨_, h3, fun v q => nomatch q⟩
    · exact h4.obj
    · exact h5.obj
    · exact h6.obj
  have sub : ∀ {d : Addr}, d ∈ [z, TO, i1, i2, i3] → d ∈ [z, TI, TO, i1, i2, i3] := fun q => by
    simp at q ⊢
    rcases q with q | q | q | q | q <;> simp [q]
  constructor
  · simp
  · exact fun i h st d hd => there st d hd
  · intro i h h' ⟨h1, h2, ⟨x1, x2, x3, h3⟩, h4, h5, h6⟩ k
    exact ⟨k z (by simp) _ h1, k TI (by simp) _ h2, ⟨x1, x2, x3, k TO (by simp) _ h3⟩, h4.at fun o q => k i1 (by simp) o q, h5.at fun o q => k i2 (by simp) o q, h6.at fun o q => k i3 (by simp) o q⟩
  · intro X hP hw hK hc i pins s σ H E I hf st ⟨hlt, hall⟩
    subst hP hw hK
    obtain ⟨xs, hx, hn⟩ := hall (a, t) (by simp)
    obtain ⟨ys, hy, hm⟩ := hall (b, u) (by simp)
    obtain ⟨zs, hz, hl⟩ := hall (c, v) (by simp)
    obtain ⟨its, rx, ob1⟩ := Inv.sq I hx
    obtain ⟨jts, ry, ob2⟩ := Inv.sq I hy
    obtain ⟨kts, rz, ob3⟩ := Inv.sq I hz
    have s1 : its.toArray.size = xs.length := by rw [List.size_toArray, rx.length]
    have s2 : jts.toArray.size = ys.length := by rw [List.size_toArray, ry.length]
    have s3 : kts.toArray.size = zs.length := by rw [List.size_toArray, rz.length]
    have D1 := draws_sq (prog := X.prog) (w := X.w) (A := X.A.in1) (I.ok.hd hc) i1 a hai its.toArray t
    have D2 := draws_sq (prog := X.prog) (w := X.w) (A := X.A.in1) (I.ok.hd hc) i2 b hbi jts.toArray u
    have D3 := draws_sq (prog := X.prog) (w := X.w) (A := X.A.in1) (I.ok.hd hc) i3 c hci kts.toArray v
    obtain ⟨g1, g2, g3, g4, g5, g6⟩ := id st
    refine (GoesN.zip3 (elts := elts) (x1 := kk) (pos := tpos) S D1 D2 D3).goes i s _ _ (by rw [s1, s2, s3]; omega) ⟨g1, g2, g3, ⟨g4, ob1⟩, ⟨g5, ob2⟩, ⟨g6, ob3⟩⟩ fun vv h' tk ⟨T, x, y, y3, ev, hT, hit1, hit2, hit3, htup⟩ ⟨f1, f2, f3, ⟨f4, _⟩, ⟨f5, _⟩, ⟨f6, _⟩⟩ hk _ => ?_
    have hk' : ∀ d o, d ∉ [z, TI, TO, i1, i2, i3] → s.heap.get? d = some o → h'.get? d = some o := fun d o hd e => hk d o (fun q => hd (sub q)) e
    obtain ⟨p, ep, rp⟩ := at_turn (X := X) (pins := pins) (σ := σ) (H := H) (s := s) (a := a) (t := t) (by omega) rx hit1
    obtain ⟨q, eq, rq⟩ := at_turn (X := X) (pins := pins) (σ := σ) (H := H) (s := s) (a := b) (t := u) (by omega) ry hit2
    obtain ⟨r, er, rr⟩ := at_turn (X := X) (pins := pins) (σ := σ) (H := H) (s := s) (a := c) (t := v) (by omega) rz hit3
    have I1 : Inv X pins σ (upd H T (.tup [p, q, r])) { s with heap := h', toks := tk } := tup_out I hf hk' hT (us := [x, y, y3]) htup (by simp) (.cons rp (.cons rq (.cons rr .nil)))
    refine ⟨.ref T, _, I1, ev, ⟨T, [p, q, r], rfl, I.hok.fresh hT, rfl, rfl, fun k e v' h1 h2 ws hw => ?_⟩, ⟨f1, f2, f3, f4, f5, f6⟩, fun d hd => fp_none (hf d hd) (let ⟨o, e, _⟩ := there st d hd; ⟨o, e⟩) hT⟩
    match k with
    | 0 => cases h1; cases h2; rw [Inv.sq_inj I hw hx]; exact ep
    | 1 => cases h1; cases h2; rw [Inv.sq_inj I hw hy]; exact eq
    | 2 => cases h1; cases h2; rw [Inv.sq_inj I hw hz]; exact er
    | k + 3 => simp at h1
  · intro X hP hw hK hc i pins s σ H E I hf st ⟨hin, hall, r, hr, ws, hws, hwn⟩
    subst hP hw hK
    obtain ⟨xs, hx, hn⟩ := hall (a, t) (by simp)
    obtain ⟨ys, hy, hm⟩ := hall (b, u) (by simp)
    obtain ⟨zs, hz, hl⟩ := hall (c, v) (by simp)
    obtain ⟨its, rx, ob1⟩ := Inv.sq I hx
    obtain ⟨jts, ry, ob2⟩ := Inv.sq I hy
    obtain ⟨kts, rz, ob3⟩ := Inv.sq I hz
    have s1 : its.toArray.size = xs.length := by rw [List.size_toArray, rx.length]
    have s2 : jts.toArray.size = ys.length := by rw [List.size_toArray, ry.length]
    have s3 : kts.toArray.size = zs.length := by rw [List.size_toArray, rz.length]
    have hmin : min (min its.toArray.size jts.toArray.size) kts.toArray.size = i := by
      rcases (show r = (a, t) ∨ r = (b, u) ∨ r = (c, v) by simpa using hr) with rfl | rfl | rfl
      · have := Inv.sq_inj I hws hx; subst this; omega
      · have := Inv.sq_inj I hws hy; subst this; omega
      · have := Inv.sq_inj I hws hz; subst this; omega
    have D1 := draws_sq (prog := X.prog) (w := X.w) (A := X.A.in1) (I.ok.hd hc) i1 a hai its.toArray t
    have D2 := draws_sq (prog := X.prog) (w := X.w) (A := X.A.in1) (I.ok.hd hc) i2 b hbi jts.toArray u
    have D3 := draws_sq (prog := X.prog) (w := X.w) (A := X.A.in1) (I.ok.hd hc) i3 c hci kts.toArray v
    obtain ⟨g1, g2, g3, g4, g5, g6⟩ := id st
    refine (GoesN.zip3 (elts := elts) (x1 := kk) (pos := tpos) S D1 D2 D3).stops s _ _ (by rw [hmin]; exact ⟨g1, g2, g3, ⟨g4, ob1⟩, ⟨g5, ob2⟩, ⟨g6, ob3⟩⟩) fun h' tk hk _ => ?_
    exact I.turnedL (fun d o hd e => hk d o (fun q => hd (sub q)) e) hf
  · intro A i s Q E st h
    exact wpAny_pyIter_zip st.1 h
end
end VL

-- VK
/-! VK: enumerate(x), zip(x, y), zip(x, y, z) as sources of trees. -/
namespace VL
open PySem PySem.Spec L2 PyProof.Rows

set_option maxHeartbeats 1000000 in
theorem meets_enum1 {v : Value} {o : Obj} {H : Heap → Prop} (B : Begins v o H) :
    Meets (Builtin.«enumerate.__new__» ⟨[.type "enumerate", v], []⟩) (fun _ R s => H s.heap ∧
      R (.ok (.ret (.ref (s.heap.push o).objs.size))) { s with heap := (s.heap.push o).push { cls := .type "enumerate", data := .fields #[.none, .bool false, .ref s.heap.objs.size, rawInt 0, .none, .none] } }) :=
  .of_wp fun prog w A R s h => by
    obtain ⟨hp, g, d, tk, os⟩ := s
    obtain ⟨h1, h⟩ := h
    have hsub := sub_enumerate
    have q1 : ∀ {A' : Around} {E : Value → Shared → Prop} {Q : Value → Shared → Prop}, Q (.ref hp.objs.size) ⟨hp.push o, g, d, tk, os⟩ → wpAny (model prog w) A' (pyIter v) Q E ⟨hp, g, d, tk, os⟩ :=
      fun q => B.iter prog w _ _ ⟨hp, g, d, tk, os⟩ _ h1 q
    wp_walk using q1
    refine wpAny_stack_any fun st => wpAny_pure ?_
    split
    · rename_i c _ _ _ _ _
      cases (c == Value.type "enumerate")
      · wp_walk using q1
        exact ⟨_, rfl, h⟩
      · wp_walk using q1
        exact ⟨_, rfl, h⟩
    · wp_walk using q1
      exact ⟨_, rfl, h⟩
theorem enum_begins1 {prog : Program} {w : World} {A : Around} {E : Value → Shared → Prop} {s : Shared} {v : Value} {o : Obj} {H : Heap → Prop} {Q : Value → Shared → Prop} (B : Begins v o H) (h1 : H s.heap)
    (h : ∀ h', IsEnum h' (s.heap.objs.size + 1) s.heap.objs.size 0 .none → h'.get? s.heap.objs.size = some o →
      (∀ b o, s.heap.get? b = some o → h'.get? b = some o) → Q (.ref (s.heap.objs.size + 1)) { s with heap := h' }) : wpAny (model prog w) A (call (.type "enumerate") [v]) Q E s := by
  refine callType_new F.called_enumerate (by decide) (F.typeCall_enumerate_1 _) (F.newCall_enumerate_1 _) (fun obj => F.args_object_init_2 obj _) F.entry_enumerate_new (meets_enum1 B) ⟨h1, ?_⟩
  have hz : (s.heap.push o).objs.size = s.heap.objs.size + 1 := Heap.size_push ..
  show _ ∧ _
  rw [hz]
  have he : IsEnum ((s.heap.push o).push { cls := .type "enumerate", data := .fields #[.none, .bool false, .ref s.heap.objs.size, rawInt 0, .none, .none] }) (s.heap.objs.size + 1) s.heap.objs.size 0 .none := by
    have := Heap.get?_push_size (s.heap.push o) (o := { cls := .type "enumerate", data := .fields #[.none, .bool false, .ref s.heap.objs.size, rawInt 0, .none, .none] }) rfl
    rw [hz] at this
    exact this
  exact ⟨⟨_, he, rfl⟩, h _ he (Heap.get?_push_of_some _ (Heap.get?_push_size _ B.free)) fun b o x => Heap.get?_push_of_some _ (Heap.get?_push_of_some _ x)⟩

theorem ne_lt {a n : Nat} (k : Nat) (h : a < n) : a ≠ n + k := by omega
/-! ### over the tracked heap -/
section
variable {X : Cx} {C : Act} {e a b c : Expr} {es : List Expr} {p pos tpos : Pos} {elts : List Expr} {kk : Nat} {ta : TA}
def iEnumN (K : PySem.W.Frag) (ta : TA) : TI := fun σ H R => ta σ H fun vs H1 => ∃ a t xs n, vs = [.ref a] ∧ SqS K H1 a xs t ∧ R (Itn K [(a, t)] (fun i => [.int (i : Nat)]) n) H1
theorem fp_new {pins : List (Addr × Obj)} {σ : L2.St} {H : Hp} {s : Shared} (I : Inv X pins σ H s) {ch : List Addr} (h : ∀ c ∈ ch, s.heap.objs.size ≤ c) : ∀ c ∈ ch, FpOk X pins H c := fun c hc => I.fpOk (h c hc) (I.hok.fresh (h c hc))
theorem pi_enumN (hm : X.mg "enumerate" = none) (ha : PA X [e] ta) (hg : Gl X "enumerate") (hs : starEach [e] X.env = [(false, eval e X.env)] := by rfl) : PI X (.Tuple elts kk tpos) (.Call (.Name "enumerate" p) [e] [] pos) (iEnumN X.K ta) := by
  refine ⟨fun pins s σ H R I h => ?_⟩
  refine Call_ (ld_blt I hg hm boot_enumerate (PyProof.Rows.callWith_type1 (thn (ha.run pos pins s σ H _ I h) fun us s1 ⟨vs, H1, I1, r1, q1⟩ => ?_) hs rfl))
  obtain ⟨a, t, xs, n, ex, hq, q⟩ := q1
  subst ex
  cases r1 with
  | cons r rr =>
    cases rr
    cases r
    obtain ⟨its, rv, ob⟩ := Inv.sq I1 hq
    have hlt := ob.lt
    refine enum_begins1 (begins_sq a its.toArray t) ob fun h' he hit hk => wpAny_pyIter_enum he ?_
    have I2 : Inv X pins σ H1 { s1 with heap := h' } := I1.kept (t' := s1.toks) hk
    exact ⟨s1.heap.objs.size + 1, [s1.heap.objs.size + 1, s1.heap.objs.size], _, _, H1, rfl, I2,
      turn_enumN (a := a) (ne_lt 1 hlt) (ne_lt 0 hlt) (show s1.heap.objs.size + 1 ≠ s1.heap.objs.size by omega),
      ⟨⟨.none, he⟩, .new hit⟩, fp_new I1 (by simp), q⟩
def iZip2N (K : PySem.W.Frag) (ta : TA) : TI := fun σ H R => ta σ H fun vs H1 => ∃ a t xs b u ys n, vs = [.ref a, .ref b] ∧ SqS K H1 a xs t ∧ SqS K H1 b ys u ∧ R (Itn K [(a, t), (b, u)] (fun _ => []) n) H1
theorem pi_zip2N (hm : X.mg "zip" = none) (ha : PA X [a, b] ta) (hg : Gl X "zip") (hs : starEach [a, b] X.env = (false, eval a X.env) :: starEach [b] X.env := by rfl) (hpl : (backTo pos (starEach [b] X.env)).any (·.1) = false := by rfl) :
    PI X (.Tuple elts kk tpos) (.Call (.Name "zip" p) [a, b] [] pos) (iZip2N X.K ta) := by
  refine ⟨fun pins s σ H R I h => ?_⟩
  refine Call_ (ld_blt I hg hm boot_zip (PyProof.Rows.callWith_type1 (thn (ha.run pos pins s σ H _ I h) fun us s1 ⟨vs, H1, I1, r1, q1⟩ => ?_) hs hpl))
  obtain ⟨a, t, xs, b, u, ys, n, ex, hq, hr, q⟩ := q1
  subst ex
  obtain ⟨v1, v2, rfl, e1, e2⟩ := vals2 r1
  cases e1; cases e2
  obtain ⟨its, rx, ob1⟩ := Inv.sq I1 hq
  obtain ⟨jts, ry, ob2⟩ := Inv.sq I1 hr
  have l1 := ob1.lt
  have l2 := ob2.lt
  refine zip_begins2 (begins_sq a its.toArray t) (begins_sq b jts.toArray u) ob1 ob2 fun h' hz hTI hTO h1 h2 _ hk => wpAny_pyIter_zip hz ?_
  have I2 : Inv X pins σ H1 { s1 with heap := h' } := I1.kept (t' := s1.toks) hk
  have g1 : ∀ x ∈ [a], x < s1.heap.objs.size := fun x hx => by rw [List.mem_singleton] at hx; subst hx; exact l1
  have g2 : ∀ x ∈ [b], x < s1.heap.objs.size := fun x hx => by rw [List.mem_singleton] at hx; subst hx; exact l2
  exact ⟨s1.heap.objs.size + 4, [s1.heap.objs.size + 4, s1.heap.objs.size + 2, s1.heap.objs.size + 3, s1.heap.objs.size, s1.heap.objs.size + 1], _, _, H1, rfl, I2,
    turn_zip2N (zip_sep2 g1 g2) (ne_lt 0 l1) (ne_lt 1 l2),
    ⟨hz, hTI, ⟨_, _, hTO⟩, .new h1, .new h2⟩, fp_new I1 (by simp), q⟩
def iZip3N (K : PySem.W.Frag) (ta : TA) : TI := fun σ H R => ta σ H fun vs H1 => ∃ a t xs b u ys c v zs n, vs = [.ref a, .ref b, .ref c] ∧ SqS K H1 a xs t ∧ SqS K H1 b ys u ∧ SqS K H1 c zs v ∧ R (Itn K [(a, t), (b, u), (c, v)] (fun _ => []) n) H1
theorem vals3 {x y z : V} {us : List Value} (r : Vals [x, y, z] us) : ∃ u v t, us = [u, v, t] ∧ RelV x u ∧ RelV y v ∧ RelV z t := by
  cases r with
  | cons r1 r =>
    cases r with
    | cons r2 r =>
      cases r with
      | cons r3 r => cases r; exact ⟨_, _, _, rfl, r1, r2, r3⟩
theorem pi_zip3N (hm : X.mg "zip" = none) (ha : PA X [a, b, c] ta) (hg : Gl X "zip") (hs : starEach [a, b, c] X.env = (false, eval a X.env) :: starEach [b, c] X.env := by rfl) (hpl : (backTo pos (starEach [b, c] X.env)).any (·.1) = false := by rfl) :
    PI X (.Tuple elts kk tpos) (.Call (.Name "zip" p) [a, b, c] [] pos) (iZip3N X.K ta) := by
  refine ⟨fun pins s σ H R I h => ?_⟩
  refine Call_ (ld_blt I hg hm boot_zip (PyProof.Rows.callWith_type1 (thn (ha.run pos pins s σ H _ I h) fun us s1 ⟨vs, H1, I1, r1, q1⟩ => ?_) hs hpl))
  obtain ⟨a, t, xs, b, u, ys, c, v, zs, n, ex, hq, hr, hw, q⟩ := q1
  subst ex
  obtain ⟨v1, v2, v3, rfl, e1, e2, e3⟩ := vals3 r1
  cases e1; cases e2; cases e3
  obtain ⟨its, rx, ob1⟩ := Inv.sq I1 hq
  obtain ⟨jts, ry, ob2⟩ := Inv.sq I1 hr
  obtain ⟨kts, rz, ob3⟩ := Inv.sq I1 hw
  have l1 := ob1.lt
  have l2 := ob2.lt
  have l3 := ob3.lt
  refine zip_begins3 (begins_sq a its.toArray t) (begins_sq b jts.toArray u) (begins_sq c kts.toArray v) ob1 ob2 ob3 fun h' hz hTI hTO h1 h2 h3 _ hk => wpAny_pyIter_zip hz ?_
  have I2 : Inv X pins σ H1 { s1 with heap := h' } := I1.kept (t' := s1.toks) hk
  have g1 : ∀ x ∈ [a], x < s1.heap.objs.size := fun x hx => by rw [List.mem_singleton] at hx; subst hx; exact l1
  have g2 : ∀ x ∈ [b], x < s1.heap.objs.size := fun x hx => by rw [List.mem_singleton] at hx; subst hx; exact l2
  have g3 : ∀ x ∈ [c], x < s1.heap.objs.size := fun x hx => by rw [List.mem_singleton] at hx; subst hx; exact l3
  exact ⟨s1.heap.objs.size + 5, [s1.heap.objs.size + 5, s1.heap.objs.size + 3, s1.heap.objs.size + 4, s1.heap.objs.size, s1.heap.objs.size + 1, s1.heap.objs.size + 2], _, _, H1, rfl, I2,
    turn_zip3N (zip_sep3 g1 g2 g3) (ne_lt 0 l1) (ne_lt 1 l2) (ne_lt 2 l3),
    ⟨hz, hTI, ⟨_, _, _, hTO⟩, .new h1, .new h2, .new h3⟩, fp_new I1 (by simp), q⟩
end

/-! ### over trees -/
def enD (i : Nat) : List D → List D
  | [] => []
  | d :: ds => .tup [.int (i : Nat), d] :: enD (i + 1) ds
def zp2 : List D → List D → List D
  | x :: xs, y :: ys => .tup [x, y] :: zp2 xs ys
  | _, _ => []
def zp3 : List D → List D → List D → List D
  | x :: xs, y :: ys, z :: zs => .tup [x, y, z] :: zp3 xs ys zs
  | _, _, _ => []
theorem enD_len : ∀ (i : Nat) (ds : List D), (enD i ds).length = ds.length
  | _, [] => rfl
  | i, d :: ds => by simp [enD, enD_len (i + 1) ds]
theorem enD_get : ∀ (i : Nat) (ds : List D) (k : Nat) (x : D), (enD i ds)[k]? = some x → ∃ d, ds[k]? = some d ∧ x = .tup [.int ((i + k : Nat)), d]
  | _, [], k, x, e => by simp [enD] at e
  | i, d :: ds, 0, x, e => by simp [enD] at e; exact ⟨d, rfl, e.symm⟩
  | i, d :: ds, k + 1, x, e => by
    simp only [enD, List.getElem?_cons_succ] at e
    obtain ⟨d', e1, e2⟩ := enD_get (i + 1) ds k x e
    exact ⟨d', by simpa using e1, by rw [e2, show i + 1 + k = i + (k + 1) by omega]⟩
theorem zp2_len : ∀ (xs ys : List D), (zp2 xs ys).length = min xs.length ys.length
  | [], _ => by simp [zp2]
  | _ :: _, [] => by simp [zp2]
  | _ :: xs, _ :: ys => by simp [zp2, zp2_len xs ys]
theorem zp2_get : ∀ (xs ys : List D) (k : Nat) (d : D), (zp2 xs ys)[k]? = some d → ∃ x y, xs[k]? = some x ∧ ys[k]? = some y ∧ d = .tup [x, y]
  | [], _, _, _, e => by simp [zp2] at e
  | _ :: _, [], _, _, e => by simp [zp2] at e
  | x :: xs, y :: ys, 0, d, e => by simp [zp2] at e; exact ⟨x, y, rfl, rfl, e.symm⟩
  | x :: xs, y :: ys, k + 1, d, e => by simpa using zp2_get xs ys k d (by simpa [zp2] using e)
theorem zp3_len : ∀ (xs ys zs : List D), (zp3 xs ys zs).length = min (min xs.length ys.length) zs.length
  | [], _, _ => by simp [zp3]
  | _ :: _, [], _ => by simp [zp3]
  | _ :: _, _ :: _, [] => by simp [zp3]
  | _ :: xs, _ :: ys, _ :: zs => by simp [zp3, zp3_len xs ys zs]
theorem zp3_get : ∀ (xs ys zs : List D) (k : Nat) (d : D), (zp3 xs ys zs)[k]? = some d → ∃ x y z, xs[k]? = some x ∧ ys[k]? = some y ∧ zs[k]? = some z ∧ d = .tup [x, y, z]
  | [], _, _, _, _, e => by simp [zp3] at e
  | _ :: _, [], _, _, _, e => by simp [zp3] at e
  | _ :: _, _ :: _, [], _, _, e => by simp [zp3] at e
  | x :: xs, y :: ys, z :: zs, 0, d, e => by simp [zp3] at e; exact ⟨x, y, z, rfl, rfl, rfl, e.symm⟩
  | x :: xs, y :: ys, z :: zs, k + 1, d, e => by simpa using zp3_get xs ys zs k d (by simpa [zp3] using e)
def allVs : List Arg → Option (List D)
  | [] => some []
  | .v d :: as => (allVs as).map (d :: ·)
  | .s _ :: _ => none
theorem allVs_of {K : PySem.W.Frag} {A : Addr → Prop} {Γ : G} {σ : L2.St} {H : Hp} : ∀ {as : List Arg} {vs : List V} {ds : List D}, ArgReps K A Γ σ H as vs → allVs as = some ds → Reps K A H ds vs
  | [], vs, ds, r, e => by cases r; cases e; rfl
  | .v d :: as, vs, ds, r, e => by
    obtain ⟨v, us, rfl, r1, r2⟩ := r
    simp only [allVs] at e
    cases z : allVs as with
    | none => rw [z] at e; cases e
    | some ds' =>
      rw [z] at e
      cases e
      exact ⟨v, us, rfl, r1, allVs_of r2 z⟩
  | .s _ :: _, vs, ds, r, e => by cases e
def seqs : List D → Option (List (List D × Bool))
  | [] => some []
  | d :: ds => match seqD d, seqs ds with
    | some x, some xs => some (x :: xs)
    | _, _ => none
def iEnum1 (wa : WA) : WI := fun Γ Q => wa Γ fun as Γ' => match (allVs as).bind seqs with
  | some [(ds, _)] => Q (enD 0 ds) Γ'
  | _ => False
def iZip2 (wa : WA) : WI := fun Γ Q => wa Γ fun as Γ' => match (allVs as).bind seqs with
  | some [(xs, _), (ys, _)] => Q (zp2 xs ys) Γ'
  | _ => False
def iZip3 (wa : WA) : WI := fun Γ Q => wa Γ fun as Γ' => match (allVs as).bind seqs with
  | some [(xs, _), (ys, _), (zs, _)] => Q (zp3 xs ys zs) Γ'
  | _ => False
theorem seqs_get {K : PySem.W.Frag} {A : Addr → Prop} {H : Hp} : ∀ {ds : List D} {vs : List V} {L : List (List D × Bool)}, Reps K A H ds vs → seqs ds = some L →
    ∃ M : List (Addr × Bool), vs = M.map (fun q => V.ref q.1) ∧ M.length = L.length ∧ ds.length = L.length ∧ Srcs K A H M ds ∧ ∀ (k : Nat) d, ds[k]? = some d → ∃ q, L[k]? = some q ∧ seqD d = some q
  | [], vs, L, r, e => by
    cases r; cases e
    exact ⟨[], rfl, rfl, rfl, ⟨rfl, fun k q d h => by simp at h⟩, fun k d h => by simp at h⟩
  | d :: ds, vs, L, r, e => by
    obtain ⟨v, us, rfl, r1, r2⟩ := r
    unfold seqs at e
    split at e
    · rename_i x xs h1 h2
      cases e
      obtain ⟨es, t⟩ := x
      obtain ⟨M, f1, f2, f3, f4, f5⟩ := seqs_get r2 h2
      obtain ⟨a, ws, g1, g2, g3⟩ := rep_sq h1 r1
      subst g1 f1
      refine ⟨(a, t) :: M, rfl, by simp [f2], by simp [f3], ⟨by simp [f4.len], fun k q d' e1 e2 => ?_⟩, fun k d' e1 => ?_⟩
      · cases k with
        | zero =>
          simp at e1 e2
          subst e1 e2
          exact ⟨es, ws, h1, g2, g3, r1⟩
        | succ k => exact f4.get k q d' (by simpa using e1) (by simpa using e2)
      · cases k with
        | zero =>
          simp at e1
          subst e1
          exact ⟨_, rfl, h1⟩
        | succ k => simpa using f5 k d' (by simpa using e1)
    · cases e
section
variable {X : Cx} {C : Act} {e a b c : Expr} {es : List Expr} {p pos tpos : Pos} {elts : List Expr} {kk : Nat} {wa : WA}
theorem vi_enum (hm : X.mg "enumerate" = none) (ha : VA X C [e] wa) (hg : Gl X "enumerate" := by rfl) (hs : starEach [e] X.env = [(false, eval e X.env)] := by rfl) : VI X C (.Tuple elts kk tpos) (.Call (.Name "enumerate" p) [e] [] pos) (iEnum1 wa) := by
  refine PI.imp (pi_enumN hm ha hg hs) fun σ H R ⟨Γ, AV, Qv, Rl, h, k⟩ => ⟨Γ, AV, _, Rl, h, fun as Γ' vs H' q p r => ?_⟩
  split at q
  · rename_i ds t z
    obtain ⟨D', z1, z2⟩ := Option.bind_eq_some_iff.mp z
    have rr := allVs_of r z1
    obtain ⟨M, f1, f2, f3, f4, f5⟩ := seqs_get rr z2
    match M, f2 with
    | [(a, t1)], _ =>
      match D', f3 with
      | [d], _ =>
        obtain ⟨ds', xs, e1, q1, r1, _⟩ := f4.get 0 (a, t1) d rfl rfl
        obtain ⟨x, e2, e3⟩ := f5 0 d rfl
        simp at e2
        subst e2
        rw [e1] at e3
        cases e3
        have f4' : Srcs X.K (fun b => AvA AV Γ' σ b ∨ H' b = none) H' [(a, t1)] [d] := ⟨f4.len, fun k q d h1 h2 => by
          obtain ⟨a1, a2, a3, a4, a5, a6⟩ := f4.get k q d h1 h2
          exact ⟨a1, a2, a3, a4, Reps.fresh _ _ a5, Rep.fresh _ _ a6⟩⟩
        refine ⟨a, t1, xs, (enD 0 ds).length, f1, q1, k _ _ _ _ q p ?_⟩
        refine src_n f4' (fD := fun i => [.int (i : Nat)]) (fun i H => ⟨_, _, rfl, rfl, rfl⟩) (fun i x ex => ?_) (fun k d' hd => ?_) ⟨0, d, ds, t1, rfl, e1, (enD_len 0 ds).symm⟩
        · obtain ⟨y, h1, h2⟩ := enD_get 0 ds i x ex
          refine ⟨[y], by rw [h2, Nat.zero_add]; rfl, rfl, fun k e' he => ?_⟩
          cases k with
          | zero =>
            simp at he
            subst he
            exact ⟨d, ds, t1, rfl, e1, h1⟩
          | succ k => simp at he
        · cases k with
          | zero =>
            simp at hd
            subst hd
            exact ⟨ds, t1, e1, by rw [enD_len]; exact Nat.le_refl _⟩
          | succ k => simp at hd
  · exact q.elim
theorem vi_zip2 (hm : X.mg "zip" = none) (ha : VA X C [a, b] wa) (hg : Gl X "zip" := by rfl) (hs : starEach [a, b] X.env = (false, eval a X.env) :: starEach [b] X.env := by rfl) (hpl : (backTo pos (starEach [b] X.env)).any (·.1) = false := by rfl) :
    VI X C (.Tuple elts kk tpos) (.Call (.Name "zip" p) [a, b] [] pos) (iZip2 wa) := by
  refine PI.imp (pi_zip2N hm ha hg hs hpl) fun σ H R ⟨Γ, AV, Qv, Rl, h, k⟩ => ⟨Γ, AV, _, Rl, h, fun as Γ' vs H' q p r => ?_⟩
  split at q
  · rename_i xs t ys u z
    obtain ⟨D', z1, z2⟩ := Option.bind_eq_some_iff.mp z
    have rr := allVs_of r z1
    obtain ⟨M, f1, f2, f3, f4, f5⟩ := seqs_get rr z2
    match M, f2 with
    | [(a, t1), (b, u1)], _ =>
      match D', f3 with
      | [d, d2], _ =>
        obtain ⟨xs', vx, e1, q1, r1, _⟩ := f4.get 0 (a, t1) d rfl rfl
        obtain ⟨ys', vy, e2, q2, r2, _⟩ := f4.get 1 (b, u1) d2 rfl rfl
        obtain ⟨x, g1, g2⟩ := f5 0 d rfl
        obtain ⟨y, g3, g4⟩ := f5 1 d2 rfl
        simp at g1 g3
        subst g1 g3
        rw [e1] at g2
        rw [e2] at g4
        cases g2; cases g4
        have f4' : Srcs X.K (fun b => AvA AV Γ' σ b ∨ H' b = none) H' [(a, t1), (b, u1)] [d, d2] := ⟨f4.len, fun k q d h1 h2 => by
          obtain ⟨a1, a2, a3, a4, a5, a6⟩ := f4.get k q d h1 h2
          exact ⟨a1, a2, a3, a4, Reps.fresh _ _ a5, Rep.fresh _ _ a6⟩⟩
        refine ⟨a, t1, vx, b, u1, vy, (zp2 xs ys).length, f1, q1, q2, k _ _ _ _ q p ?_⟩
        have two : ∀ {P : Nat → D → Prop}, P 0 d → P 1 d2 → ∀ (k : Nat) d', [d, d2][k]? = some d' → P k d' := fun {P} p0 p1 k d' hd => by
          match k with
          | 0 => cases hd; exact p0
          | 1 => cases hd; exact p1
          | k + 2 => simp at hd
        refine src_n f4' (fD := fun i => []) (fun i H => rfl) (fun i x ex => ?_) ?_ ?_
        · obtain ⟨x1, y1, h1, h2, h3⟩ := zp2_get xs ys i x ex
          refine ⟨[x1, y1], h3, rfl, fun k e' he => ?_⟩
          match k with
          | 0 => cases he; exact ⟨d, xs, t1, rfl, e1, h1⟩
          | 1 => cases he; exact ⟨d2, ys, u1, rfl, e2, h2⟩
          | k + 2 => simp at he
        · exact two ⟨xs, t1, e1, by rw [zp2_len]; omega⟩ ⟨ys, u1, e2, by rw [zp2_len]; omega⟩
        · rw [zp2_len]
          by_cases hl : xs.length ≤ ys.length
          · exact ⟨0, d, xs, t1, rfl, e1, by omega⟩
          · exact ⟨1, d2, ys, u1, rfl, e2, by omega⟩
  · exact q.elim
theorem vi_zip3 (hm : X.mg "zip" = none) (ha : VA X C [a, b, c] wa) (hg : Gl X "zip" := by rfl) (hs : starEach [a, b, c] X.env = (false, eval a X.env) :: starEach [b, c] X.env := by rfl) (hpl : (backTo pos (starEach [b, c] X.env)).any (·.1) = false := by rfl) :
    VI X C (.Tuple elts kk tpos) (.Call (.Name "zip" p) [a, b, c] [] pos) (iZip3 wa) := by
  refine PI.imp (pi_zip3N hm ha hg hs hpl) fun σ H R ⟨Γ, AV, Qv, Rl, h, k⟩ => ⟨Γ, AV, _, Rl, h, fun as Γ' vs H' q p r => ?_⟩
  split at q
  · rename_i xs t ys u zs w z
    obtain ⟨D', z1, z2⟩ := Option.bind_eq_some_iff.mp z
    have rr := allVs_of r z1
    obtain ⟨M, f1, f2, f3, f4, f5⟩ := seqs_get rr z2
    match M, f2 with
    | [(a, t1), (b, u1), (c, w1)], _ =>
      match D', f3 with
      | [d, d2, d3], _ =>
        obtain ⟨xs', vx, e1, q1, r1, _⟩ := f4.get 0 (a, t1) d rfl rfl
        obtain ⟨ys', vy, e2, q2, r2, _⟩ := f4.get 1 (b, u1) d2 rfl rfl
        obtain ⟨zs', vz, e3, q3, r3, _⟩ := f4.get 2 (c, w1) d3 rfl rfl
        obtain ⟨x, g1, g2⟩ := f5 0 d rfl
        obtain ⟨y, g3, g4⟩ := f5 1 d2 rfl
        obtain ⟨y3, g5, g6⟩ := f5 2 d3 rfl
        simp at g1 g3 g5
        subst g1 g3 g5
        rw [e1] at g2
        rw [e2] at g4
        rw [e3] at g6
        cases g2; cases g4; cases g6
        have f4' : Srcs X.K (fun b => AvA AV Γ' σ b ∨ H' b = none) H' [(a, t1), (b, u1), (c, w1)] [d, d2, d3] := ⟨f4.len, fun k q d h1 h2 => by
          obtain ⟨a1, a2, a3, a4, a5, a6⟩ := f4.get k q d h1 h2
          exact ⟨a1, a2, a3, a4, Reps.fresh _ _ a5, Rep.fresh _ _ a6⟩⟩
        refine ⟨a, t1, vx, b, u1, vy, c, w1, vz, (zp3 xs ys zs).length, f1, q1, q2, q3, k _ _ _ _ q p ?_⟩
        have three : ∀ {P : Nat → D → Prop}, P 0 d → P 1 d2 → P 2 d3 → ∀ (k : Nat) d', [d, d2, d3][k]? = some d' → P k d' := fun {P} p0 p1 p2 k d' hd => by
          match k with
          | 0 => cases hd; exact p0
          | 1 => cases hd; exact p1
          | 2 => cases hd; exact p2
          | k + 3 => simp at hd
        refine src_n f4' (fD := fun i => []) (fun i H => rfl) (fun i x ex => ?_) ?_ ?_
        · obtain ⟨x1, y1, z1, h1, h2, h3, h4⟩ := zp3_get xs ys zs i x ex
          refine ⟨[x1, y1, z1], h4, rfl, fun k e' he => ?_⟩
          match k with
          | 0 => cases he; exact ⟨d, xs, t1, rfl, e1, h1⟩
          | 1 => cases he; exact ⟨d2, ys, u1, rfl, e2, h2⟩
          | 2 => cases he; exact ⟨d3, zs, w1, rfl, e3, h3⟩
          | k + 3 => simp at he
        · exact three ⟨xs, t1, e1, by rw [zp3_len]; omega⟩ ⟨ys, u1, e2, by rw [zp3_len]; omega⟩ ⟨zs, w1, e3, by rw [zp3_len]; omega⟩
        · rw [zp3_len]
          by_cases h12 : xs.length ≤ ys.length
          · by_cases h13 : xs.length ≤ zs.length
            · exact ⟨0, d, xs, t1, rfl, e1, by omega⟩
            · exact ⟨2, d3, zs, w1, rfl, e3, by omega⟩
          · by_cases h23 : ys.length ≤ zs.length
            · exact ⟨1, d2, ys, u1, rfl, e2, by omega⟩
            · exact ⟨2, d3, zs, w1, rfl, e3, by omega⟩
  · exact q.elim
end
end VL

-- VM
/-! VM: built-in functions over trees. -/
namespace VL
open PySem PySem.Spec L2 PyProof.Rows

/-- a built-in function on trees -/
abbrev OB := List D → (D → Bool → Prop) → Prop
def argsD (Γ : G) : List Arg → Option (List D)
  | [] => some []
  | a :: as => match argD Γ a, argsD Γ as with
    | some d, some ds => some (d :: ds)
    | _, _ => none
def wB (vo : OB) (wa : WA) : WE := fun Γ Q => wa Γ fun as Γ1 => match argsD Γ1 as with
  | some ds => vo ds fun d fl => Q d fl Γ1
  | none => False
def RepTs (K : PySem.W.Frag) (A : Addr → Prop) (H : Hp) : List D → List V → Prop
  | [], vs => vs = []
  | d :: ds, vs => ∃ v r, vs = v :: r ∧ RepT K A H d v ∧ RepTs K A H ds r
def rB (K : PySem.W.Frag) (vo : OB) : List V → Hp → VK → Prop := fun vs H Q => ∃ C AV Γ σ ds Qv, Rel K C AV Γ σ H ∧ RepTs K (AvA AV Γ σ) H ds vs ∧ vo ds Qv ∧
  ∀ d fl v H', Qv d fl → PostE K C AV Γ σ H Γ H' d v fl → Q v H'
theorem CallR.imp {X : Cx} {f : Value} {r r' : List V → Hp → VK → Prop} (h : CallR X f r) (k : ∀ xs H Q, r' xs H Q → r xs H Q) : CallR X f r' := fun pins s σ H xs us Q I rx q => h pins s σ H xs us Q I rx (k xs H Q q)
theorem argsD_of {K : PySem.W.Frag} {C : Act} {AV : Addr → Prop} {Γ : G} {σ : L2.St} {H : Hp} (R : Rel K C AV Γ σ H) : ∀ {as : List Arg} {vs : List V} {ds : List D}, ArgReps K (AvA AV Γ σ) Γ σ H as vs → argsD Γ as = some ds → RepTs K (AvA AV Γ σ) H ds vs
  | [], vs, ds, r, e => by cases r; cases e; rfl
  | a :: as, vs, ds, r, e => by
    obtain ⟨v, us, rfl, r1, r2⟩ := r
    unfold argsD at e
    split at e
    · rename_i d ds' h1 h2
      cases e
      exact ⟨v, us, rfl, R.argT r1 h1, argsD_of R r2 h2⟩
    · cases e
section
variable {X : Cx} {C : Act} {e a b c : Expr} {es : List Expr} {pos p : Pos} {vo : OB} {wa : WA} {x : Str} {idn T : String}
theorem laB (σ : L2.St) (H : Hp) (Q : VK) (h : lf X.K C (wB vo wa) σ H Q) : tCB (rB X.K vo) (la X.K C wa) σ H Q := by
  obtain ⟨Γ, AV, Qv, R, h, k⟩ := h
  refine ⟨Γ, AV, _, R, h, fun as Γ1 vs H1 q p r => ?_⟩
  have q : (match argsD Γ1 as with
    | some ds => vo ds fun d fl => Qv d fl Γ1
    | none => False) := q
  cases z : argsD Γ1 as with
  | none => rw [z] at q; exact q.elim
  | some ds =>
    rw [z] at q
    exact ⟨C, AV, Γ1, σ, ds, _, p.rel, argsD_of p.rel r z, q, fun d fl v H' q3 p3 => k _ _ _ _ _ q3 (p.post p3)⟩
theorem ve_blt (hc : CallR X (.builtin idn) (rB X.K vo)) (hm : X.mg x = none) (ha : VA X C (e :: es) wa) (hg : Gl X x := by rfl) (hv : bootBuiltins x = some (.builtin idn) := by rfl) (hn : x ≠ "__name__" := by decide) (hdb : (x == ("__debug__" : Str)) = false := by decide)
    (he : starEach (e :: es) X.env = (false, eval e X.env) :: starEach es X.env := by rfl) (hpl : (backTo pos (starEach es X.env)).any (·.1) = false := by rfl) : VE X C (.Call (.Name x p) (e :: es) [] pos) (wB vo wa) :=
  PE.imp (pe_callB hc hg hm hv ha hn hdb he hpl) laB
theorem ve_bty (hc : CallR X (.type T) (rB X.K vo)) (hm : X.mg x = none) (ha : VA X C (e :: es) wa) (hg : Gl X x := by rfl) (hv : bootBuiltins x = some (.type T) := by rfl) (hn : x ≠ "__name__" := by decide) (hdb : (x == ("__debug__" : Str)) = false := by decide)
    (he : starEach (e :: es) X.env = (false, eval e X.env) :: starEach es X.env := by rfl) (hpl : (backTo pos (starEach es X.env)).any (·.1) = false := by rfl) : VE X C (.Call (.Name x p) (e :: es) [] pos) (wB vo wa) :=
  PE.imp (pe_callTy hc hg hm hv ha hn hdb he hpl) laB
/-- a module's name for a built-in function -/
theorem ve_bfun (hc : CallR X (.builtin idn) (rB X.K vo)) (hm : X.mg x = some (.builtin idn)) (ha : VA X C (e :: es) wa) (hg : Gl X x := by rfl) (hdb : (x == ("__debug__" : Str)) = false := by decide)
    (he : starEach (e :: es) X.env = (false, eval e X.env) :: starEach es X.env := by rfl) (hpl : (backTo pos (starEach es X.env)).any (·.1) = false := by rfl) : VE X C (.Call (.Name x p) (e :: es) [] pos) (wB vo wa) :=
  PE.imp (pe_callBfun hc hg hm ha hdb he hpl) laB

/-! ### which -/
def isInts : List D → Option (List Int)
  | [] => some []
  | .int i :: ds => (isInts ds).map (i :: ·)
  | _ :: _ => none
def isBls : List D → Option (List Bool)
  | [] => some []
  | .bl i :: ds => (isBls ds).map (i :: ·)
  | _ :: _ => none
theorem isInts_of {K : PySem.W.Frag} {A : Addr → Prop} {H : Hp} : ∀ {ds : List D} {vs : List V} {ns : List Int}, Reps K A H ds vs → isInts ds = some ns → vs = ns.map V.int
  | [], vs, ns, r, e => by cases r; cases e; rfl
  | .int i :: ds, vs, ns, r, e => by
    obtain ⟨v, us, rfl, r1, r2⟩ := r
    simp only [isInts, Option.map_eq_some_iff] at e
    obtain ⟨ms, e1, rfl⟩ := e
    cases r1
    rw [isInts_of r2 e1]; rfl
  | .non :: _, _, _, _, e => by cases e
  | .bl _ :: _, _, _, _, e => by cases e
  | .str _ :: _, _, _, _, e => by cases e
  | .tup _ :: _, _, _, _, e => by cases e
  | .lst _ :: _, _, _, _, e => by cases e
  | .fz _ :: _, _, _, _, e => by cases e
  | .raw _ :: _, _, _, _, e => by cases e
theorem isBls_of {K : PySem.W.Frag} {A : Addr → Prop} {H : Hp} : ∀ {ds : List D} {vs : List V} {ns : List Bool}, Reps K A H ds vs → isBls ds = some ns → vs = ns.map V.bl
  | [], vs, ns, r, e => by cases r; cases e; rfl
  | .bl i :: ds, vs, ns, r, e => by
    obtain ⟨v, us, rfl, r1, r2⟩ := r
    simp only [isBls, Option.map_eq_some_iff] at e
    obtain ⟨ms, e1, rfl⟩ := e
    cases r1
    rw [isBls_of r2 e1]; rfl
  | .non :: _, _, _, _, e => by cases e
  | .int _ :: _, _, _, _, e => by cases e
  | .str _ :: _, _, _, _, e => by cases e
  | .tup _ :: _, _, _, _, e => by cases e
  | .lst _ :: _, _, _, _, e => by cases e
  | .fz _ :: _, _, _, _, e => by cases e
  | .raw _ :: _, _, _, _, e => by cases e
@[simp] theorem isInts_map (ns : List Int) : isInts (ns.map D.int) = some ns := by
  induction ns with
  | nil => rfl
  | cons n ns ih => simp [isInts, ih]
@[simp] theorem isBls_map (ns : List Bool) : isBls (ns.map D.bl) = some ns := by
  induction ns with
  | nil => rfl
  | cons n ns ih => simp [isBls, ih]
theorem repsInt {K : PySem.W.Frag} {A : Addr → Prop} {H : Hp} : ∀ (ns : List Int), Reps K A H (ns.map D.int) (ns.map V.int)
  | [] => rfl
  | n :: ns => ⟨_, _, rfl, rfl, repsInt ns⟩
/-- a list or a tuple -/
theorem repT_sq {K : PySem.W.Frag} {A : Addr → Prop} {H : Hp} {d : D} {v : V} {ds : List D} {t : Bool} (e : seqD d = some (ds, t)) (r : RepT K A H d v) : ∃ a vs, v = .ref a ∧ SqS K H a vs t ∧ Reps K A H ds vs := by
  cases d <;> cases e
  · obtain ⟨a, vs, e1, q, rr⟩ := r
    exact ⟨a, vs, e1, q, rr⟩
  · obtain ⟨a, vs, e1, q, rr⟩ := r
    exact ⟨a, vs, e1, SqL.of q, rr⟩
  · obtain ⟨a, vs, e1, q, rr⟩ := r
    exact ⟨a, vs, e1, fz_sq q, rr⟩

def oLen : OB
  | [.str y], Q => y.length ≤ LN ∧ Q (.int (y.length : Nat)) false
  | [d], Q => match seqD d with
    | some (ds, _) => Q (.int (ds.length : Nat)) false
    | none => False
  | _, _ => False
theorem br_len : CallR X (.builtin "len") (rB X.K oLen) := by
  refine CallR.imp call_len fun vs H Q ⟨C, AV, Γ, σ, ds, Qv, R, rs, h, k⟩ => ?_
  unfold oLen at h
  split at h
  · obtain ⟨v, _, rfl, r, e⟩ := rs
    cases e; cases r
    exact ⟨.str _, _, rfl, ⟨LN_le h.1, rfl⟩, k _ _ _ _ h.2 (post_val R rfl)⟩
  · obtain ⟨v, _, rfl, r, e⟩ := rs
    cases e
    split at h
    · rename_i es t z
      obtain ⟨a, us, rfl, q, rr⟩ := repT_sq z r
      refine ⟨.ref a, es.length, rfl, ?_, k _ _ _ _ h (post_val R rfl)⟩
      cases t with
      | false => exact .inl ⟨us, q, rr.length⟩
      | true => exact .inr ⟨us, q, rr.length⟩
    · exact h.elim
  · exact h.elim
def oList : OB
  | [d], Q => match seqD d with
    | some (ds, _) => Q (.lst ds) true
    | none => False
  | _, _ => False
theorem br_list : CallR X (.type "list") (rB X.K oList) := by
  refine CallR.imp call_list_of fun vs H Q ⟨C, AV, Γ, σ, ds, Qv, R, rs, h, k⟩ => ?_
  unfold oList at h
  split at h
  · obtain ⟨v, _, rfl, r, e⟩ := rs
    cases e
    split at h
    · rename_i es t z
      obtain ⟨a, us, rfl, q, rr⟩ := repT_sq z r
      refine ⟨a, us, rfl, ?_, fun l hl => k _ _ _ _ h (post_lst R hl rr)⟩
      cases t with
      | false => exact .inl q
      | true => exact .inr q
    · exact h.elim
  · exact h.elim
def oTuple : OB
  | [d], Q => match seqD d with
    | some (ds, _) => Q (.tup ds) false
    | none => False
  | _, _ => False
theorem br_tuple : CallR X (.type "tuple") (rB X.K oTuple) := by
  refine CallR.imp call_tuple_of fun vs H Q ⟨C, AV, Γ, σ, ds, Qv, R, rs, h, k⟩ => ?_
  unfold oTuple at h
  split at h
  · obtain ⟨v, _, rfl, r, e⟩ := rs
    cases e
    split at h
    · rename_i es t z
      obtain ⟨a, us, rfl, q, rr⟩ := repT_sq z r
      refine ⟨a, us, rfl, ?_⟩
      cases t with
      | false => exact .inl ⟨q, fun l hl => k _ _ _ _ h (post_tup R hl rr)⟩
      | true => exact .inr ⟨q, k _ _ _ _ h (post_val R ⟨a, us, rfl, q, rr⟩)⟩
    · exact h.elim
  · exact h.elim

/-! ### sum, max, min -/
def rSumT (K : PySem.W.Frag) : List V → Hp → VK → Prop := fun vs H Q => ∃ (a : Addr) (ns : List Int), vs = [V.ref a] ∧ SqT K H a (ns.map V.int) ∧ Q (.int ns.sum) H
theorem cr_sumT (hc : X.calm = true) : CallR X (.builtin "sum") (rSumT X.K) := by
  intro pins s σ H vs us Q I r ⟨a, ns, ev, hs, q⟩
  subst ev
  obtain ⟨its, rv, hl, _⟩ := I.tuple hs
  rw [Vals.ref1 r]
  obtain ⟨xs, ex⟩ := rv.ints.allInts.items
  have hn : numsOf (intItems xs).toList = ns := by
    rw [← ex]
    exact rv.ints.numsOf
  rw [nums_intItems] at hn
  rw [ex] at hl
  refine PySem.W.ktm_sumG (I.ok.hd hc) hl fun h' tk t' hk => ⟨.int _, H, I.kept hk, ⟨t', ?_⟩, q⟩
  rw [preSum_eq, List.take_of_length_le (by simp), hn]
def oSum : OB
  | [d], Q => match seqD d with
    | some (ds, _) => (match isInts ds with
      | some ns => Q (.int ns.sum) false
      | none => False)
    | none => False
  | _, _ => False
theorem CallR.or' {f : Value} {r r' : List V → Hp → VK → Prop} (h : CallR X f r) (h' : CallR X f r') : CallR X f (fun xs H Q => r xs H Q ∨ r' xs H Q) := fun pins s σ H xs us Q I rs q => q.elim (h pins s σ H xs us Q I rs) (h' pins s σ H xs us Q I rs)
theorem br_sum (hc : X.calm = true) : CallR X (.builtin "sum") (rB X.K oSum) := by
  refine CallR.imp (CallR.or' (cr_sum hc) (cr_sumT hc)) fun vs H Q ⟨C, AV, Γ, σ, ds, Qv, R, rs, h, k⟩ => ?_
  unfold oSum at h
  split at h
  · obtain ⟨v, _, rfl, r, e⟩ := rs
    cases e
    split at h
    · rename_i es t z
      obtain ⟨a, us, rfl, q, rr⟩ := repT_sq z r
      cases y : isInts es with
      | none => simp only [y] at h
      | some ns =>
        simp only [y] at h
        have := isInts_of rr y
        subst this
        cases t with
        | false => exact .inl ⟨a, ns, rfl, q, k _ _ _ _ h (post_val R rfl)⟩
        | true => exact .inr ⟨a, ns, rfl, q, k _ _ _ _ h (post_val R rfl)⟩
    · exact h.elim
  · exact h.elim
/-- max(i, j), max of a list -/
def oMax : OB
  | [.int i, .int j], Q => Q (.int (if j > i then j else i)) false
  | [.lst ds], Q => match isInts ds with
    | some ns => 0 < ns.length ∧ ∀ m, m ∈ ns → (∀ y, y ∈ ns → y ≤ m) → Q (.int m) false
    | none => False
  | _, _ => False
def oMin : OB
  | [.int i, .int j], Q => Q (.int (if j < i then j else i)) false
  | [.lst ds], Q => match isInts ds with
    | some ns => 0 < ns.length ∧ ∀ m, m ∈ ns → (∀ y, y ∈ ns → m ≤ y) → Q (.int m) false
    | none => False
  | _, _ => False
theorem br_max (hc : X.calm = true) : CallR X (.builtin "max") (rB X.K oMax) := by
  refine CallR.imp (CallR.or' (call_max2 hc) (cr_max hc)) fun vs H Q ⟨C, AV, Γ, σ, ds, Qv, R, rs, h, k⟩ => ?_
  unfold oMax at h
  split at h
  · obtain ⟨v, _, rfl, r, u, _, rfl, r2, e⟩ := rs
    cases e; cases r; cases r2
    exact .inl ⟨_, _, rfl, k _ _ _ _ h (post_val R rfl)⟩
  · rename_i es
    obtain ⟨v, _, rfl, r, e⟩ := rs
    cases e
    obtain ⟨a, us, rfl, q, rr⟩ := r
    cases y : isInts es with
    | none => simp only [y] at h
    | some ns =>
      simp only [y] at h
      have := isInts_of rr y
      subst this
      exact .inr ⟨a, ns, rfl, SqL.of q, h.1, fun m h1 h2 => k _ _ _ _ (h.2 m h1 h2) (post_val R rfl)⟩
  · exact h.elim
theorem br_min (hc : X.calm = true) : CallR X (.builtin "min") (rB X.K oMin) := by
  refine CallR.imp (CallR.or' (call_min2 hc) (cr_min hc)) fun vs H Q ⟨C, AV, Γ, σ, ds, Qv, R, rs, h, k⟩ => ?_
  unfold oMin at h
  split at h
  · obtain ⟨v, _, rfl, r, u, _, rfl, r2, e⟩ := rs
    cases e; cases r; cases r2
    exact .inl ⟨_, _, rfl, k _ _ _ _ h (post_val R rfl)⟩
  · rename_i es
    obtain ⟨v, _, rfl, r, e⟩ := rs
    cases e
    obtain ⟨a, us, rfl, q, rr⟩ := r
    cases y : isInts es with
    | none => simp only [y] at h
    | some ns =>
      simp only [y] at h
      have := isInts_of rr y
      subst this
      exact .inr ⟨a, ns, rfl, SqL.of q, h.1, fun m h1 h2 => k _ _ _ _ (h.2 m h1 h2) (post_val R rfl)⟩
  · exact h.elim
/-! ### ints -/
def oAbs : OB
  | [.int i], Q => Q (.int (if i < 0 then -i else i)) false
  | _, _ => False
theorem br_abs : CallR X (.builtin "abs") (rB X.K oAbs) := by
  refine CallR.imp call_abs fun vs H Q ⟨C, AV, Γ, σ, ds, Qv, R, rs, h, k⟩ => ?_
  unfold oAbs at h
  split at h
  · obtain ⟨v, _, rfl, r, e⟩ := rs
    cases e; cases r
    exact ⟨_, rfl, k _ _ _ _ h (post_val R rfl)⟩
  · exact h.elim
def oInt : OB
  | [.int i], Q => Q (.int i) false
  | [.bl k], Q => Q (.int (if k then 1 else 0)) false
  | _, _ => False
theorem br_int : CallR X (.type "int") (rB X.K oInt) := by
  refine CallR.imp call_int1 fun vs H Q ⟨C, AV, Γ, σ, ds, Qv, R, rs, h, k⟩ => ?_
  unfold oInt at h
  split at h
  · obtain ⟨v, _, rfl, r, e⟩ := rs
    cases e; cases r
    exact .inl ⟨_, rfl, k _ _ _ _ h (post_val R rfl)⟩
  · obtain ⟨v, _, rfl, r, e⟩ := rs
    cases e; cases r
    exact .inr ⟨_, rfl, k _ _ _ _ h (post_val R rfl)⟩
  · exact h.elim
def oDivmod : OB
  | [.int i, .int j], Q => (0 < j ∧ j < 1073741824) ∧ Q (.tup [.int (i / j), .int (i % j)]) false
  | _, _ => False
theorem br_divmod : CallR X (.builtin "divmod") (rB X.K oDivmod) := by
  refine CallR.imp call_divmod fun vs H Q ⟨C, AV, Γ, σ, ds, Qv, R, rs, h, k⟩ => ?_
  unfold oDivmod at h
  split at h
  · obtain ⟨v, _, rfl, r, u, _, rfl, r2, e⟩ := rs
    cases e; cases r; cases r2
    exact ⟨_, _, rfl, h.1, fun p hp => k _ _ _ _ h.2 (post_tup R hp ⟨_, _, rfl, rfl, _, _, rfl, rfl, rfl⟩)⟩
  · exact h.elim
def oGcd : OB
  | [.int i, .int j], Q => Q (.int ((Nat.gcd i.natAbs j.natAbs : Nat) : Int)) false
  | _, _ => False
theorem br_gcd : CallR X (.builtin "math.gcd") (rB X.K oGcd) := by
  refine CallR.imp cr_gcd fun vs H Q ⟨C, AV, Γ, σ, ds, Qv, R, rs, h, k⟩ => ?_
  unfold oGcd at h
  split at h
  · obtain ⟨v, _, rfl, r, u, _, rfl, r2, e⟩ := rs
    cases e; cases r; cases r2
    exact ⟨_, _, rfl, k _ _ _ _ h (post_val R rfl)⟩
  · exact h.elim
/-! ### all, any, sorted -/
def oAll : OB
  | [.lst ds], Q => match isBls ds with
    | some bs => Q (.bl (bs.all id)) false
    | none => False
  | _, _ => False
def oAny : OB
  | [.lst ds], Q => match isBls ds with
    | some bs => Q (.bl (bs.any id)) false
    | none => False
  | _, _ => False
theorem br_all (hc : X.calm = true) : CallR X (.builtin "all") (rB X.K oAll) := by
  refine CallR.imp (cr_all hc) fun vs H Q ⟨C, AV, Γ, σ, ds, Qv, R, rs, h, k⟩ => ?_
  unfold oAll at h
  split at h
  · rename_i es
    obtain ⟨v, _, rfl, r, e⟩ := rs
    cases e
    obtain ⟨a, us, rfl, q, rr⟩ := r
    cases y : isBls es with
    | none => simp only [y] at h
    | some ns =>
      simp only [y] at h
      have := isBls_of rr y
      subst this
      exact ⟨a, ns, rfl, SqL.of q, k _ _ _ _ h (post_val R rfl)⟩
  · exact h.elim
theorem br_any (hc : X.calm = true) : CallR X (.builtin "any") (rB X.K oAny) := by
  refine CallR.imp (cr_any hc) fun vs H Q ⟨C, AV, Γ, σ, ds, Qv, R, rs, h, k⟩ => ?_
  unfold oAny at h
  split at h
  · rename_i es
    obtain ⟨v, _, rfl, r, e⟩ := rs
    cases e
    obtain ⟨a, us, rfl, q, rr⟩ := r
    cases y : isBls es with
    | none => simp only [y] at h
    | some ns =>
      simp only [y] at h
      have := isBls_of rr y
      subst this
      exact ⟨a, ns, rfl, SqL.of q, k _ _ _ _ h (post_val R rfl)⟩
  · exact h.elim
def oSorted : OB
  | [.lst ds], Q => match isInts ds with
    | some ns => ∀ ns' : List Int, ns'.Perm ns → ns'.Pairwise (· ≤ ·) → Q (.lst (ns'.map D.int)) true
    | none => False
  | _, _ => False
theorem br_sorted : CallR X (.builtin "sorted") (rB X.K oSorted) := by
  refine CallR.imp cr_sortedI fun vs H Q ⟨C, AV, Γ, σ, ds, Qv, R, rs, h, k⟩ => ?_
  unfold oSorted at h
  split at h
  · rename_i es
    obtain ⟨v, _, rfl, r, e⟩ := rs
    cases e
    obtain ⟨a, us, rfl, q, rr⟩ := r
    cases y : isInts es with
    | none => simp only [y] at h
    | some ns =>
      simp only [y] at h
      have := isInts_of rr y
      subst this
      exact ⟨a, ns, rfl, SqL.of q, fun ns' p h1 h2 hp => k _ _ _ _ (h ns' h1 h2) (post_lst R hp (repsInt ns'))⟩
  · exact h.elim
/-! ### isinstance -/
def tyD : D → Option String
  | .non => some "NoneType"
  | .bl _ => some "bool"
  | .int _ => some "int"
  | .str _ => some "str"
  | .tup _ => some "tuple"
  | .lst _ => some "list"
  | .fz _ => some "list"
  | .raw _ => none
theorem tyD_of {K : PySem.W.Frag} {A : Addr → Prop} {H : Hp} {d : D} {v : V} {t : String} (r : RepT K A H d v) (e : tyD d = some t) : TyX K H v (.type t) := by
  cases d <;> cases e
  · cases r; exact .base .non
  · cases r; exact .base (.bl _)
  · cases r; exact .base (.int _)
  · cases r; exact .base (.str _)
  · obtain ⟨a, vs, rfl, q, _⟩ := r
    rcases q with (q | ⟨o, q⟩) | ⟨o, its, n, hk, hc, _⟩
    · exact .base (.tup q)
    · exact .fTuple q
    · exact .kTuple hk hc
  · obtain ⟨a, vs, rfl, q, _⟩ := r
    exact .base (.lst q)
  · obtain ⟨a, vs, rfl, q, _⟩ := r
    rcases q with ⟨_, q⟩ | q
    · rcases q with q | ⟨o, q⟩
      · exact .base (.lst q)
      · exact .base (.frz q)
    · obtain ⟨o, its, n, hk, hc, _⟩ := q
      exact .kList hk hc
/-- the types that are asked for -/
inductive Ty | bool | int | str | tup | lst
def Ty.name : Ty → String
  | .bool => "bool"
  | .int => "int"
  | .str => "str"
  | .tup => "tuple"
  | .lst => "list"
def isTy : Ty → D → Bool
  | .int, .int _ => true
  | .int, .bl _ => true
  | .bool, .bl _ => true
  | .str, .str _ => true
  | .tup, .tup _ => true
  | .lst, .lst _ => true
  | .lst, .fz _ => true
  | _, _ => false
def isRaw : D → Bool
  | .raw _ => true
  | _ => false
theorem isTy_kit {d : D} (h : isRaw d = false) (T : Ty) : ∃ t, tyD d = some t ∧ kitB t T.name = some (isTy T d) := by
  cases d with
  | raw u => cases h
  | _ => cases T <;> first | exact ⟨_, rfl, show kitB _ _ = some true by decide +kernel⟩ | exact ⟨_, rfl, show kitB _ _ = some false by decide +kernel⟩
def wIsi (T : Ty) (wo : WO) : WE := fun Γ Q => wo Γ fun a Γ1 => match argD Γ1 a with
  | some d => isRaw d = false ∧ Q (.bl (isTy T d)) false Γ1
  | none => False
theorem ve_isi (T : Ty) {wo : WO} {y : Str} {p2 : Pos} (hm : X.mg "isinstance" = none) (hm2 : X.mg y = none) (ha : VO X C e wo) (hg2 : Gl X y := by rfl) (hv2 : bootBuiltins y = some (.type T.name) := by rfl) (hn2 : y ≠ "__name__" := by decide) (hd2 : (y == ("__debug__" : Str)) = false := by decide)
    (hg : Gl X "isinstance" := by rfl) (he : starEach [e, .Name y p2] X.env = (false, eval e X.env) :: starEach [.Name y p2] X.env := by rfl) (he2 : starEach [.Name y p2] X.env = (false, eval (.Name y p2) X.env) :: starEach [] X.env := by rfl) (hpl : (backTo pos (starEach [.Name y p2] X.env)).any (·.1) = false := by rfl) :
    VE X C (.Call (.Name "isinstance" p) [e, .Name y p2] [] pos) (wIsi T wo) := by
  have hT : PE X (.Name y p2) (tC (.ty T.name)) := pe_bltn hg2 hm2 hv2 rfl hn2 hd2
  refine PE.imp (pe_callB call_isi hg hm (by rfl) (pa_cons ha (pa_cons hT pa_nil he2) he) (by decide) (by decide) he hpl) fun σ H Q ⟨Γ, AV, Qv, R, h, k⟩ => ?_
  refine ⟨Γ, AV, _, R, h, fun a Γ1 v H1 q p r => ?_⟩
  have q : (match argD Γ1 a with
    | some d => isRaw d = false ∧ Qv (.bl (isTy T d)) false Γ1
    | none => False) := q
  cases z : argD Γ1 a with
  | none => rw [z] at q; exact q.elim
  | some d =>
    rw [z] at q
    obtain ⟨t, e1, e2⟩ := isTy_kit q.1 T
    exact ⟨v, .ty T.name, .type t, .type T.name, isTy T d, rfl, .ty _, tyD_of (p.rel.argT r z) e1, kit_ty e2, k _ _ _ _ _ q.2 (p.e rfl)⟩
end
end VL

-- VN
/-! VN: sorted(set(xs)), len(set(xs)) of ints. -/
namespace VL
open PySem PySem.Spec L2 PyProof.Rows
/-- an empty set -/
abbrev set0 (w : World) : Obj := { cls := .type "set", dict := none, data := .set #[] 0 (.fresh 0 0 (!w.params.followText "set-order")) }
section
variable {P : Program} {w : World} {A : Around} {E : Value → Shared → Prop} {s : Shared}
set_option maxHeartbeats 3200000 in
/-- the fill of a new set from what is walked -/
theorem set_init {nS : Addr} {items : Array Value} (ns : List Int) {Q : Value → Shared → Prop} (hh : A.handled = none) (hit : IntsAre items.toList ns) (hb : ns.length + 1 < scanBound)
    (hl : s.heap.IsList nS items)
    (h : ∀ (h' : Heap) (tk c : Nat), SetR w h' s.heap.objs.size (fun j => decide (j ∈ ns)) c → c ≤ ns.length → (∀ b o, s.heap.get? b = some o → h'.get? b = some o) → Q (.ref s.heap.objs.size) { s with heap := h', toks := tk }) :
    wpAny (model P w) A (call (.type "set") [.ref nS]) Q E s := by
  have cnt : items.size = ns.length := (Array.length_toList).symm.trans hit.length
  obtain ⟨_, _, mro1⟩ := F.called_set.mro
  have made1 := F.called_set.made
  have sub1 := F.called_set.sub
  refine wpAny_call (codeAny_of_tree ?_)
  show wpAny _ _ (callAny (.type "set") _) _ _ _
  refine wpAny_pure ⟨Code.quiet_builtin _ (by decide +kernel), codeAny_builtin F.entry_type_call ?_⟩
  rw [Around.under_plain (weight_type_call_type "set" [.ref nS] []) rfl]
  have not1 := F.called_set.notType
  have can1 := F.called_set.canCreate
  have typ1 := F.typeCall_set_1 (.ref nS)
  repeat (any_goals (first | assumption | wp_step))
  refine codeAny_mono (code_set_led1 (.ref nS) (E := E) (Q₁ := fun r t => r = .ref s.heap.objs.size ∧ t = { s with heap := s.heap.push (set0 w) }) ⟨rfl, rfl⟩) fun r t hr => ?_
  cases r with
  | error e => exact hr
  | ok fl =>
    cases fl with
    | ret obj =>
      obtain ⟨rfl, rfl⟩ := hr
      have gS : (s.heap.push (set0 w)).get? s.heap.objs.size = some (set0 w) := Heap.get?_push_size _ rfl
      have tS : Shared.TypeIs { s with heap := s.heap.push (set0 w) } (.ref s.heap.objs.size) "set" := ⟨_, gS, rfl⟩
      have look1 := F.called_set.init.lookup
      have bind1 := F.called_set.init.bind (.ref s.heap.objs.size)
      repeat (any_goals (first | assumption | wp_step))
      refine codeAny_mono (codeAny_call_builtin (R := wants (fun r t => r = .none ∧ ∃ h' tk c, t = { s with heap := h', toks := tk } ∧ SetR w h' s.heap.objs.size (fun j => decide (j ∈ ns)) c ∧ c ≤ ns.length ∧
          ∀ b o, s.heap.get? b = some o → h'.get? b = some o) E) F.called_set.init.plain F.entry_set_init (check_set_init_1 tS ?_)) fun r2 t2 hr2 => ?_
      · obtain ⟨o, ho, oc, cap, od⟩ := hl
        obtain ⟨c1, c2, c3, c4⟩ := o
        simp only at oc od
        subst oc od
        have ho2 : (s.heap.push (set0 w)).get? nS = some { cls := .type "list", dict := c2, data := .seq items cap, slots := c4 } := Heap.get?_push_of_some _ ho
        have sub2 := F.sub_list_set
        have sub3 := F.sub_list_frozenset
        have ndict : (Value.type "list" == Value.type "dict") = false := by decide
        have isL : (s.heap.push (set0 w)).IsList nS items := ⟨_, ho2, rfl, cap, rfl⟩
        unfold Builtin.«set.__init__» noKeywords Builtin.Frozenset.updateFrom
        generalize ePI : pyIter = PI
        wp_walk
        subst ePI
        refine wpAny_pyIter_list isL ?_
        refine wpAny_bind (wpAny_runValue ?_)
        have ltS : nS < s.heap.objs.size := Heap.lt_size ho
        have none3 : A.in1.in1.in1.handled = none := by simp [hh]
        have zS : (s.heap.push (set0 w)).objs.size = s.heap.objs.size + 1 := Heap.size_push ..
        have apart1 : nS ≠ (s.heap.push (set0 w)).objs.size := by
          rw [zS]
          exact ne_lt 1 ltS
        have apart2 : s.heap.objs.size ∉ [(s.heap.push (set0 w)).objs.size, nS] := fun hm => by
          rw [zS] at hm
          rcases List.mem_cons.mp hm with q | q
          · exact absurd q (Nat.ne_of_lt (Nat.lt_succ_self _))
          · exact absurd (List.mem_singleton.mp q) (Nat.ne_of_gt ltS)
        refine set_update_ints ((Walks.list none3 _ nS apart1 items).toS) s.heap.objs.size apart2 ns cnt hb (fun i v hv => ?_) (items.size - 0) 0 _ (by omega) (Nat.zero_le _)
          ⟨⟨_, Heap.get?_push_size _ rfl, rfl, rfl⟩, (isL.push _)⟩ ⟨0, Nat.le_refl 0, setR_new_at (Heap.get?_push_of_some _ gS)⟩ ?_
        · have hi : i < ns.length := by
            rw [← cnt]
            exact (Array.getElem?_eq_some_iff.mp hv).1
          obtain ⟨t, e⟩ := IntsAre.int_at hit i v (by rw [Array.getElem?_toList]; exact hv)
          refine ⟨ns[i], t, List.getElem?_eq_getElem hi, ?_⟩
          rw [e, List.getD_eq_getElem?_getD, List.getElem?_eq_getElem hi] <;> rfl
        · intro t c' hm hc' hS'
          obtain ⟨h', a1, a2, tk', a3⟩ := t
          have e1 : a1 = s.gens := hm.gens
          have e2 : a2 = s.drawn := hm.drawn
          have e3 : a3 = s.os := hm.os
          subst e1 e2 e3
          show wpAny _ _ _ _ _ _
          refine wpAny_pure ?_
          show wpAny _ _ (ret Value.none) _ _ _
          rw [cnt] at hc'
          refine wpAny_pure ⟨rfl, h', tk', c', rfl, hS', hc', fun b o e => ?_⟩
          have hlt : b < s.heap.objs.size := Heap.lt_size e
          refine hm.heap b o (fun q => ?_) (Heap.get?_push_of_some _ (Heap.get?_push_of_some _ e))
          rcases List.mem_cons.mp q with q | q
          · exact absurd q (Nat.ne_of_lt hlt)
          · have q := List.mem_singleton.mp q
            rw [zS] at q
            exact absurd q (ne_lt 1 hlt)
      · cases r2 with
        | error e => exact hr2
        | ok fl2 =>
          cases fl2 with
          | ret r =>
            obtain ⟨rfl, h', tk, c', rfl, hS', hc', hk'⟩ := hr2
            repeat (any_goals (first | assumption | wp_step))
            exact h _ _ _ hS' hc' hk'
          | _ => exact hr2.elim
    | _ => exact hr.elim
end
end VL

-- VP
/-! VP: sorted(set(xs)), len(set(xs)), as rules over trees. -/
namespace VL
open PySem PySem.Spec L2 PyProof.Rows
section
variable {X : Cx} {C : Act} {e a b c : Expr} {es : List Expr} {pos p p2 q : Pos} {wo : WO}
def rSetL (K : PySem.W.Frag) (w : World) : List V → Hp → VK → Prop := fun vs H Q => ∃ (a : Addr) (ns : List Int), vs = [V.ref a] ∧ SqL K H a (ns.map V.int) ∧ ns.length ≤ 4000 ∧
  ∀ (t : Addr) (L : List Int), H t = none → L.Nodup → (∀ k, k ∈ L ↔ k ∈ ns) → Q (.ref t) (upd H t (SetO w t (fun j => decide (j ∈ ns)) L.length))
theorem cr_setL (hc : X.calm = true) : CallR X (.type "set") (rSetL X.K X.w) := by
  intro pins s σ H vs us Q I r ⟨a, ns, ev, hs, hn, k⟩
  subst ev
  obtain ⟨its, rv, hl, _⟩ := I.list hs
  rw [Vals.ref1 r]
  refine set_init ns (I.ok.hd hc) (by simpa using rv.ints) (by unfold scanBound; omega) hl.isList fun h' tk c R hc' hk => ?_
  obtain ⟨o, els, ep, t, f1, f2, f3, f4, f5, f6, f7, f8, f9, _⟩ := id R
  have hL : (els.toList.map keyOf).length = c := by rw [List.length_map, Array.length_toList]; exact f9
  refine ⟨.ref s.heap.objs.size, _, I.laid (t' := tk) hk (Nat.le_refl _) (setO_new R), rfl, ?_⟩
  rw [← hL]
  exact k _ _ (I.hok.fresh (Nat.le_refl _)) f5 fun j => by rw [← f6 j]; simp
def wSorSet (wo : WO) : WE := fun Γ Q => wo Γ fun a Γ1 => match argD Γ1 a with
  | some (.lst ds) => (match isInts ds with
    | some ns => ns.length ≤ 4000 ∧ (∀ L : List Int, L.Nodup → (∀ k, k ∈ L ↔ k ∈ ns) → L.length < 64) ∧ ∀ ms : List Int, ms.Pairwise (· < ·) → (∀ k, k ∈ ms ↔ k ∈ ns) → Q (.lst (ms.map D.int)) true Γ1
    | none => False)
  | _ => False
def wLenSet (wo : WO) : WE := fun Γ Q => wo Γ fun a Γ1 => match argD Γ1 a with
  | some (.lst ds) => (match isInts ds with
    | some ns => ns.length ≤ 4000 ∧ ∀ L : List Int, L.Nodup → (∀ k, k ∈ L ↔ k ∈ ns) → Q (.int (L.length : Nat)) false Γ1
    | none => False)
  | _ => False
theorem ve_sorSet (hc : X.calm = true) (hm : X.mg "sorted" = none) (hm2 : X.mg "set" = none) (ha : VO X C e wo) (hg : Gl X "sorted" := by rfl) (hg2 : Gl X "set" := by rfl)
    (n1 : starEach [.Call (.Name "set" p2) [e] [] q] X.env = (false, eval (.Call (.Name "set" p2) [e] [] q) X.env) :: starEach [] X.env := by rfl) (n2 : starEach [e] X.env = (false, eval e X.env) :: starEach [] X.env := by rfl) : VE X C (.Call (.Name "sorted" p) [.Call (.Name "set" p2) [e] [] q] [] pos) (wSorSet wo) := by
  have hs := pe_callTy (p := p2) (pos := q) (cr_setL hc) hg2 hm2 rfl (pa_cons ha pa_nil n2) (by decide) (by decide) n2 rfl
  refine PE.imp (pe_callB (cr_sortedSet hc) hg hm rfl (pa_cons hs pa_nil n1) (by decide) (by decide) n1 rfl) fun σ H Q ⟨Γ, AV, Qv, R, h, k⟩ => ?_
  refine ⟨Γ, AV, _, R, h, fun a Γ1 v H1 q p r => ?_⟩
  split at q
  · rename_i ds z
    split at q
    · rename_i ns y
      obtain ⟨b, us, rfl, ql, rr⟩ := p.rel.argT r z
      have := isInts_of rr y
      subst this
      refine ⟨b, ns, rfl, SqL.of ql, q.1, fun t L ht nd mem => ?_⟩
      refine ⟨t, _, _, rfl, upd_same, q.2.1 L nd mem, fun ms pL h1 h2 h3 h4 => ?_⟩
      have st : Step NoA H1 (upd H1 t (SetO X.w t (fun j => decide (j ∈ ns)) L.length)) := Step.new ht
      have pt : PostT X.K C AV Γ1 σ H1 Γ1 (upd H1 t (SetO X.w t (fun j => decide (j ∈ ns)) L.length)) := ⟨Step.new ht, shr_refl, p.rel.grow st⟩
      exact k _ _ _ _ _ (q.2.2 ms h1 fun k => (h2 k).trans (by simp)) ((p.trans pt).post (post_lst pt.rel h4 (repsInt ms)))
    · exact q.elim
  · exact q.elim
end
end VL

-- VQ
/-! VQ: repr of trees. -/
namespace VL
open PySem PySem.Spec L2 PyProof.Rows
mutual
def pyD : D → PyData
  | .non => .none
  | .bl b => .bool b
  | .int i => .int i
  | .str x => .str x
  | .tup ds => .tuple (pyDs ds)
  | .lst ds => .list (pyDs ds)
  | .fz ds => .list (pyDs ds)
  | .raw _ => .none
def pyDs : List D → List PyData
  | [] => []
  | d :: ds => pyD d :: pyDs ds
end
mutual
/-- what is shown without care -/
def okR : D → Bool
  | .int i => decide (i.natAbs < 2 ^ 128)
  | .str x => x.cps.toList.all fun c => decide (c < 16 ^ 8)
  | .tup ds => okRs ds
  | .lst ds => okRs ds
  | .fz ds => okRs ds
  | .raw _ => false
  | .non => true
  | .bl _ => true
def okRs : List D → Bool
  | [] => true
  | d :: ds => okR d && okRs ds
end
mutual
def wtD : D → Nat
  | .int _ => 128
  | .str x => x.cps.size
  | .tup ds => wtDs ds
  | .lst ds => wtDs ds
  | .fz ds => wtDs ds
  | .raw _ => 0
  | .non => 0
  | .bl _ => 0
def wtDs : List D → Nat
  | [] => 0
  | d :: ds => wtD d + 1 + wtDs ds
end
mutual
def dpD : D → Nat
  | .tup ds => dpDs ds + 1
  | .lst ds => dpDs ds + 1
  | .fz ds => dpDs ds + 1
  | .int _ => 0
  | .str _ => 0
  | .raw _ => 0
  | .non => 0
  | .bl _ => 0
def dpDs : List D → Nat
  | [] => 0
  | d :: ds => max (dpD d) (dpDs ds)
end
mutual
theorem dpD_ok : ∀ d : D, (pyD d).depth = dpD d
  | .int _ => by simp only [pyD, dpD, PyData.depth]
  | .str _ => by simp only [pyD, dpD, PyData.depth]
  | .raw _ => by simp only [pyD, dpD, PyData.depth]
  | .non => by simp only [pyD, dpD, PyData.depth]
  | .bl _ => by simp only [pyD, dpD, PyData.depth]
  | .tup ds => by simp only [pyD, dpD, PyData.depth, dpDs_ok ds]
  | .lst ds => by simp only [pyD, dpD, PyData.depth, dpDs_ok ds]
  | .fz ds => by simp only [pyD, dpD, PyData.depth, dpDs_ok ds]
theorem dpDs_ok : ∀ ds : List D, PyData.depthAll (pyDs ds) = dpDs ds
  | [] => by simp only [pyDs, dpDs, PyData.depthAll]
  | d :: ds => by simp only [pyDs, dpDs, PyData.depthAll, dpD_ok d, dpDs_ok ds]
end
theorem log_lt {n : Nat} (h : n < 2 ^ 128) : n.log2 < 128 := by
  by_cases h0 : n = 0
  · subst h0; decide
  · exact (Nat.log2_lt h0).mpr h
mutual
theorem wtD_ok : ∀ d : D, okR d = true → (pyD d).weight ≤ wtD d
  | .int i, h => by
    have h : i.natAbs < 2 ^ 128 := by simpa [okR] using h
    have := log_lt h
    simp only [pyD, wtD, PyData.weight]
    split <;> omega
  | .str _, _ => by simp only [pyD, wtD, PyData.weight]; omega
  | .raw _, _ => by simp only [pyD, wtD, PyData.weight]; omega
  | .non, _ => by simp only [pyD, wtD, PyData.weight]; omega
  | .bl _, _ => by simp only [pyD, wtD, PyData.weight]; omega
  | .tup ds, h => by simp only [pyD, wtD, PyData.weight]; exact wtDs_ok ds (by simpa [okR] using h)
  | .lst ds, h => by simp only [pyD, wtD, PyData.weight]; exact wtDs_ok ds (by simpa [okR] using h)
  | .fz ds, h => by simp only [pyD, wtD, PyData.weight]; exact wtDs_ok ds (by simpa [okR] using h)
theorem wtDs_ok : ∀ ds : List D, okRs ds = true → PyData.weightAll (pyDs ds) ≤ wtDs ds
  | [], _ => by simp only [pyDs, wtDs, PyData.weightAll]; omega
  | d :: ds, h => by
    have h : okR d = true ∧ okRs ds = true := by simpa [okRs] using h
    have h1 := wtD_ok d h.1
    have h2 := wtDs_ok ds h.2
    simp only [pyDs, wtDs, PyData.weightAll]
    omega
end
mutual
theorem showD_ok : ∀ d : D, okR d = true → (pyD d).showable = true
  | .int i, h => by
    have h : i.natAbs < 2 ^ 128 := by simpa [okR] using h
    have := log_lt h
    simp only [pyD, PyData.showable, decide_eq_true_eq]
    omega
  | .str _, _ => by simp only [pyD, PyData.showable]
  | .raw _, _ => by simp only [pyD, PyData.showable]
  | .non, _ => by simp only [pyD, PyData.showable]
  | .bl _, _ => by simp only [pyD, PyData.showable]
  | .tup ds, h => by simp only [pyD, PyData.showable]; exact showDs_ok ds (by simpa [okR] using h)
  | .lst ds, h => by simp only [pyD, PyData.showable]; exact showDs_ok ds (by simpa [okR] using h)
  | .fz ds, h => by simp only [pyD, PyData.showable]; exact showDs_ok ds (by simpa [okR] using h)
theorem showDs_ok : ∀ ds : List D, okRs ds = true → PyData.showableAll (pyDs ds) = true
  | [], _ => by simp only [pyDs, PyData.showableAll]
  | d :: ds, h => by
    have h : okR d = true ∧ okRs ds = true := by simpa [okRs] using h
    simp only [pyDs, PyData.showableAll, showD_ok d h.1, showDs_ok ds h.2, Bool.and_self]
end
mutual
theorem leafD_ok : ∀ d : D, okR d = true → (pyD d).leavesShort 200 = true
  | .int i, h => by
    have h : i.natAbs < 2 ^ 128 := by simpa [okR] using h
    have h2 : (toString i).length ≤ 129 := int_text_length_le (by decide) (log_lt h)
    have h3 : (PyData.shown (.int i)).length = (Str.ofString (toString i)).length := by simp only [PyData.shown]
    have h4 : (Str.ofString (toString i)).length = (toString i).length := by
      exact PySem.ofString_length _
    simp only [pyD, PyData.leavesShort, decide_eq_true_eq]
    omega
  | .str _, h => by simp only [pyD, PyData.leavesShort]; simpa [okR] using h
  | .raw _, _ => by simp only [pyD, PyData.leavesShort]
  | .non, _ => by simp only [pyD, PyData.leavesShort]
  | .bl _, _ => by simp only [pyD, PyData.leavesShort]
  | .tup ds, h => by simp only [pyD, PyData.leavesShort]; exact leafDs_ok ds (by simpa [okR] using h)
  | .lst ds, h => by simp only [pyD, PyData.leavesShort]; exact leafDs_ok ds (by simpa [okR] using h)
  | .fz ds, h => by simp only [pyD, PyData.leavesShort]; exact leafDs_ok ds (by simpa [okR] using h)
theorem leafDs_ok : ∀ ds : List D, okRs ds = true → PyData.leavesShortAll 200 (pyDs ds) = true
  | [], _ => by simp only [pyDs, PyData.leavesShortAll]
  | d :: ds, h => by
    have h : okR d = true ∧ okRs ds = true := by simpa [okRs] using h
    simp only [pyDs, PyData.leavesShortAll, leafD_ok d h.1, leafDs_ok ds h.2, Bool.and_self]
end
mutual
theorem nodict_ok : ∀ d : D, (pyD d).hasDict = false
  | .int _ => by simp only [pyD, PyData.hasDict]
  | .str _ => by simp only [pyD, PyData.hasDict]
  | .raw _ => by simp only [pyD, PyData.hasDict]
  | .non => by simp only [pyD, PyData.hasDict]
  | .bl _ => by simp only [pyD, PyData.hasDict]
  | .tup ds => by simp only [pyD, PyData.hasDict, nodicts_ok ds]
  | .lst ds => by simp only [pyD, PyData.hasDict, nodicts_ok ds]
  | .fz ds => by simp only [pyD, PyData.hasDict, nodicts_ok ds]
theorem nodicts_ok : ∀ ds : List D, PyData.hasDictAll (pyDs ds) = false
  | [] => by simp only [pyDs, PyData.hasDictAll]
  | d :: ds => by simp only [pyDs, PyData.hasDictAll, nodict_ok d, nodicts_ok ds, Bool.or_self]
end
section
variable {X : Cx} {pins : List (Addr × Obj)} {σ : L2.St} {H : Hp} {s : Shared} {A : Addr → Prop}
theorem reads_list {a : Addr} {xs : List V} {its : List Value} {ps : List PyData} {as : List Addr} (p : PlainL s.heap a its.toArray) (r : ReadsAll s.heap its ps as) : ∃ as, Reads s.heap (.ref a) (.list ps) as := by
  obtain ⟨o, ho, hc, n, hd⟩ := p.isList
  exact ⟨_, .list ho hc hd (by simpa using r)⟩
theorem reads_tup {a : Addr} {its : List Value} {ps : List PyData} {as : List Addr} (p : s.heap.IsTuple a its.toArray) (r : ReadsAll s.heap its ps as) : ∃ as, Reads s.heap (.ref a) (.tuple ps) as := by
  obtain ⟨o, ho, hc, n, hd⟩ := p
  exact ⟨_, .tuple ho hc hd (by simpa using r)⟩
mutual
theorem reads_of (I : Inv X pins σ H s) : ∀ (d : D) {v : V} {u : Value}, okR d = true → Rep X.K A H d v → RelV v u → ∃ as, Reads s.heap u (pyD d) as
  | .int i, v, u, _, r, q => by
    cases r
    obtain ⟨t, rfl⟩ := q
    exact ⟨_, by rw [pyD]; exact .int i t⟩
  | .str x, v, u, _, r, q => by
    cases r
    obtain ⟨t, rfl⟩ := q
    exact ⟨_, by rw [pyD]; exact .str x t⟩
  | .non, v, u, _, r, q => by
    cases r; cases q
    exact ⟨_, by rw [pyD]; exact .none⟩
  | .bl b, v, u, _, r, q => by
    cases r; cases q
    exact ⟨_, by rw [pyD]; exact .bool b⟩
  | .raw _, _, _, h, _, _ => by simp [okR] at h
  | .tup ds, v, u, h, r, q => by
    obtain ⟨a, vs, rfl, hs, rr⟩ := r
    cases q
    obtain ⟨its, rv, p, _⟩ := I.tuple hs
    obtain ⟨as, ra⟩ := readsAll_of I ds (by simpa [okR] using h) rr rv
    rw [pyD]
    exact reads_tup p ra
  | .lst ds, v, u, h, r, q => by
    obtain ⟨a, vs, rfl, _, hs, rr⟩ := r
    cases q
    obtain ⟨its, rv, p, _⟩ := I.list (SqL.of hs)
    obtain ⟨as, ra⟩ := readsAll_of I ds (by simpa [okR] using h) rr rv
    rw [pyD]
    exact reads_list (xs := vs) p ra
  | .fz ds, v, u, h, r, q => by
    obtain ⟨a, vs, rfl, hs, rr⟩ := r
    cases q
    obtain ⟨its, rv, p, _⟩ := I.list (fz_sq hs)
    obtain ⟨as, ra⟩ := readsAll_of I ds (by simpa [okR] using h) rr rv
    rw [pyD]
    exact reads_list (xs := vs) p ra
theorem readsAll_of (I : Inv X pins σ H s) : ∀ (ds : List D) {vs : List V} {us : List Value}, okRs ds = true → Reps X.K A H ds vs → Vals vs us → ∃ as, ReadsAll s.heap us (pyDs ds) as
  | [], vs, us, _, r, q => by
    cases r; cases q
    exact ⟨_, by rw [pyDs]; exact .nil⟩
  | d :: ds, vs, us, h, r, q => by
    obtain ⟨v, vs', rfl, r1, r2⟩ := r
    have h : okR d = true ∧ okRs ds = true := by simpa [okRs] using h
    cases q with
    | cons q1 q2 =>
      obtain ⟨as, ra⟩ := reads_of I d h.1 r1 q1
      obtain ⟨bs, rb⟩ := readsAll_of I ds h.2 r2 q2
      exact ⟨_, by rw [pyDs]; exact .cons ra rb⟩
end
/-- repr of a list or a tuple -/
def oRepr : OB
  | [d], Q => (seqD d).isSome = true ∧ (okR d = true ∧ wtD d ≤ 80000 ∧ dpD d ≤ 40) ∧ Q (.str (pyD d).shown) false
  | _, _ => False
theorem br_repr (hg : X.A.guards = some []) (hu : X.A.units + 64 < cLine) : CallR X (.builtin "repr") (rB X.K oRepr) := by
  intro pins s σ H vs us Q I rv ⟨C, AV, Γ, σ', ds, Qv, R, rs, h, k⟩
  match ds, rs with
  | [], _ => exact h.elim
  | _ :: _ :: _, _ => exact h.elim
  | [d], rs =>
    obtain ⟨v, _, e0, r, e⟩ := rs
    subst e0
    cases e
    obtain ⟨hd, ⟨h1, h2, h3⟩, hq⟩ := h
    obtain ⟨u, rfl, ru⟩ := vals1 rv
    have fin : ∀ {a : Addr} {as : List Addr}, u = .ref a → Reads s.heap (.ref a) (pyD d) as → wpAny (model X.prog X.w) X.A (call (.builtin "repr") [u]) (EP X pins σ Q) X.xe s := fun {a as} eu rd => by
      subst eu
      have hw := wtD_ok d h1
      have hl := PyData.shown_le 200 (by decide) (pyD d) (leafD_ok d h1)
      refine repr_of_reads' rd (showD_ok d h1) (PyData.noDict_hsm (nodict_ok d)) hg (by rw [dpD_ok]; omega) (fun _ _ e => e) (fun h' u tk hk => ?_) (by rw [sizeLine_eq]; omega)
      exact ⟨.str (pyD d).shown, H, I.kept hk, ⟨u, rfl⟩, k _ _ _ _ hq (post_val R rfl)⟩
    cases d <;> try (simp [seqD] at hd; done)
    · obtain ⟨as, ra⟩ := reads_of (A := AvA AV Γ σ') I _ h1 r ru
      obtain ⟨a, vs, rfl, _⟩ := r
      cases ru
      exact fin rfl ra
    · obtain ⟨a, vs, rfl, hs, rr⟩ := r
      cases ru
      obtain ⟨its, rv, p, _⟩ := I.list (SqL.of hs)
      obtain ⟨as, ra⟩ := readsAll_of I _ (by simpa [okR] using h1) rr rv
      obtain ⟨as2, rb⟩ := reads_list (xs := vs) p ra
      exact fin rfl (by rw [pyD]; exact rb)
    · obtain ⟨as, ra⟩ := reads_of (A := AvA AV Γ σ') I _ h1 r ru
      obtain ⟨a, vs, rfl, _⟩ := r
      cases ru
      exact fin rfl ra
end
end VL

-- VR
/-! VR: defs that are called with nothing being shown (their repr can be told), calls with keywords, the law's end. -/
namespace VL
open PySem PySem.Spec L2 PyProof.Rows

/-- a def's promise where no repr is under way -/
structure FnG (P : Program) (w : World) (K : PySem.W.Frag) (mg : Str → Option Value) (base : Heap) (k : Nat) (f : Addr) (fd : FuncData) (ps : List Str) (sp : Sp) : Prop where
  len : ∀ vs H Q E, sp vs H Q E → vs.length = ps.length
  go : ∀ (B : Around) (stk : List Env) (t : Shared) (G : Hp) (given : Args) (us : List Value) (vs : List V) (Q : VK) (E : XK), B.guards = some [] → Room k B → Env0 P w K mg base B stk t G → BindsTo t fd given (ps.zip us) → Vals vs us → sp vs G Q E →
    codeAny (model P w) B (.call (.ref f) given) (CR CX0 stk P w G t Q E) t
section
variable {P : Program} {w : World} {K : PySem.W.Frag} {mg : Str → Option Value} {base : Heap}
theorem fnG_of {k : Nat} {f : Addr} {name qual : Str} {params : Arguments} {body : List Stmt} {scope : Scope} {dV kV doc pm cdv ct oc : Value} {an od : Option Addr} {osl : Array (Option Value)} {N ps : List Str} {sp : Sp}
    (look : K.lookup f = some ⟨oc, od, .func (PySem.W.fnOf name qual params body scope dV kV doc pm an cdv ct), osl⟩) (code : PySem.W.codeIn K cdv qual = true) (S : FnScope N ps scope) (len : ∀ vs H Q E, sp vs H Q E → vs.length = ps.length)
    (hb : ∀ (B : Around) (stk : List Env) (t : Shared) (G : Hp) (vs : List V) (Q : VK) (E : XK), B.guards = some [] → Room k (B.deeper (envOfC qual scope t.heap.objs.size f cdv)) → sp vs G Q E →
      ∃ r, PSs (cxOf CX0 P w K mg base N qual scope f cdv B stk t G E) body r ∧ r { nx := fun _ G' => Q .non G', rt := Q } (start N vs) G) :
    FnG P w K mg base (k + 1) f (PySem.W.fnOf name qual params body scope dV kV doc pm an cdv ct) ps sp := by
  refine ⟨len, fun B stk t G given us vs Q E gd room e0 bind rel wish => ?_⟩
  have kin : K.In t.heap := e0.mod.kin.keeps fun b o e => (e0.bs b o e).1
  have nolim : t.heap.NoLimit := e0.mod.nolimit.keeps fun b o e => (e0.bs b o e).1
  have kinds : ∀ y ∈ ps.zip us, scope.names.lookup y.1 = some .local ∨ (scope.names.lookup y.1 = some .cell ∧ ((cellsFrom (t.heap.objs.size + 1) scope.names []).lookup y.1).isSome = true) := by
    rintro ⟨n, v⟩ hy
    rcases S.par n (List.of_mem_zip hy).1 with q | q
    · exact Or.inl q
    · exact Or.inr ⟨q, PySem.W.cellsFrom_some _ _ _ (Or.inl q)⟩
  refine codeAny_call_function room.depth (kin _ _ look) rfl S.co S.gen rfl (PySem.W.codeRec_of kin code) (bind _ _ _ _ ?_)
  refine wpAny_newFunctionEnv_cells S.kind kinds fun en hen t1 x => ?_
  subst hen
  refine ⟨nolim.keeps x.toInCall.keep, codeAny_func ?_⟩
  obtain ⟨r, hr, hq⟩ := hb B stk t G vs Q E gd (room.deeper _) wish
  have I := inv_start (CX := CX0) (E := E) S room.hd e0 (len _ _ _ _ wish) rel x
  refine wpAny_mono (hr.run [] t1 (start N vs) G _ I hq) (fun fl t' hs => ?_) fun e t' hs => hs
  cases fl with
  | ret u =>
    obtain ⟨v, σ', H', J, rv, q⟩ := hs
    exact ⟨v, H', J.os, J.bare, J.base, J.hok, rv, q⟩
  | next =>
    obtain ⟨σ', H', J, q⟩ := hs
    exact ⟨V.non, H', J.os, J.bare, J.base, J.hok, rfl, q⟩
  | brk => exact (let ⟨_, _, _, q⟩ := hs; q : False).elim
  | cont => exact (let ⟨_, _, _, q⟩ := hs; q : False).elim
/-- THE RULE for a def that may show things -/
theorem vfnG {x qual : Str} {st : Stmt} {f : Addr} {fd : FuncData} {N ps : List Str} {k : Nat} {io : List Nat} {fs : FS} (F : Fun K x qual st f fd) (S : FnScope N ps (defScope st))
    (hbody : ∀ (C : Act) (cdv : Value) (A : Around) (outer : List Env) (s : Shared) (H : Hp) (E : XK), A.guards = some [] → Room k (A.deeper (PyProof.Rows.envOfC qual (defScope st) s.heap.objs.size f cdv)) →
      ∃ wb, VSs (cxOf CX0 P w K mg base N qual (defScope st) f cdv A outer s H E).nox C (defBody st) wb ∧ ∀ ds Qv, ds.length = ps.length → fs ds Qv → wb { nx := fun Γ => Qv .non false (outsOf io Γ), rt := fun d fl Γ => Qv d fl (outsOf io Γ) } (startG io N.length ds)) :
    FnG P w K mg base (k + 1) f fd ps (spOf K ps.length io fs) := by
  obtain ⟨oc, od, kV, doc, pm, an, cdv, ct, osl, rfl, lk, hcd⟩ := F.ex
  refine fnG_of lk hcd S (fun vs H Q E ⟨_, _, _, h, _⟩ => h) fun A outer s H vs Q E gd hr ⟨ds, AV, Qv, hl, pre, hf, hq⟩ => ?_
  have hio : ∀ (i : Nat) a, (i, a) ∈ ioP io vs → H a ≠ none := fun i a hm => by
    obtain ⟨m, e⟩ := mem_ioP.mp hm
    obtain ⟨a', es, us, g1, g2, g3, g4, _⟩ := pre.iov i m
    rw [e] at g2; cases g2
    rw [g4]; exact fun q => nomatch q
  obtain ⟨wb, hw, hs⟩ := hbody ⟨H, ioP io vs, AV, hio⟩ cdv A outer s H E gd hr
  have hps : ps.length ≤ N.length := by
    have := congrArg List.length S.pre
    rw [List.length_take] at this
    omega
  have R := rel_start pre (N := N) (by omega) hio
  refine ⟨_, PSs.nox hw, startG io N.length ds, AV, _, R, hs ds Qv (by rw [pre.len, hl]) hf, fun Γ' σ' H' q p => ?_, fun d fl Γ' v H' q p => ?_, fun _ _ _ q => q.elim, fun _ _ _ q => q.elim⟩
  · exact hq _ _ _ _ _ q (post_of pre (p.rel.ret rfl))
  · exact hq _ _ _ _ _ q (post_of pre p)
theorem FnG.of {k : Nat} {f : Addr} {fd : FuncData} {ps : List Str} {sp : Sp} (F : FnOk P w K mg base CX0 k f fd ps sp) : FnG P w K mg base k f fd ps sp := ⟨F.len, fun B stk t G given us vs Q E _ => F.run B stk t G given us vs Q E⟩
end

/-! ### calls -/
section
variable {X : Cx} {C : Act} {e a b c : Expr} {es : List Expr} {kws : List Keyword} {pos p kpos : Pos} {f : Addr} {fd : FuncData} {ps ks : List Str} {k n : Nat} {io : List Nat} {fs : FS} {wa wk : WA} {x : Str} {sp : Sp} {E : XK} {nm : Option Str}
theorem run_g {pins : List (Addr × Obj)} {σ : L2.St} {H : Hp} {s : Shared} {Q : VK} {us ws : List Value} {vs zs : List V} {g : List Value → List Value → List Value} {gV : List V → List V → List V} (F : FnG X.prog X.w X.K X.mg X.base k f fd ps sp) (gd : X.A.guards = some []) (hr : Room k X.A) (hb : KBinds X.K fd ps ks g gV)
    (I : Inv X pins σ H s) (r : Vals vs us) (rz : Vals zs ws) (h : sp (gV vs zs) H Q E) : wpAny (model X.prog X.w) X.A (call (.ref f) us (ks.zip ws)) (EP X pins σ Q) X.xe s := by
  have rr := hb.rel r rz
  refine wpAny_call (codeAny_mono (F.go X.A X.stack s H ⟨us, ks.zip ws⟩ _ _ Q E gd hr I.env0 (hb.to s us ws I.kIn (by rw [← rr.length]; exact F.len _ _ _ _ h)) rr h) fun res t hq => ?_)
  match res, hq with
  | .ok (.ret u), hq => exact I.after hq
/-- no keywords -/
theorem kb_of {K : PySem.W.Frag} (hb : Binds K fd ps []) : KBinds K fd ps [] (fun us _ => us) (fun vs _ => vs) := by
  refine ⟨fun s us ws X hl => ?_, fun r _ => r⟩
  have h := hb s us X (by simpa using hl)
  simpa using h
theorem pe_callG (F : FnG X.prog X.w X.K X.mg X.base k f fd ps sp) (gd : X.A.guards = some []) (hr : Room k X.A) (hg : Gl X x) (hm : X.mg x = some (.ref f)) (hk : PySem.W.keepIn X.K (.ref f) = true) (hb : Binds X.K fd ps []) {t : TA}
    (ha : PA X (e :: es) t) (hdb : (x == ("__debug__" : Str)) = false) (he : starEach (e :: es) X.env = (false, eval e X.env) :: starEach es X.env) (hpl : (backTo pos (starEach es X.env)).any (·.1) = false) :
    PE X (.Call (.Name x p) (e :: es) [] pos) (tCall sp [] E t) := by
  refine ⟨fun pins s σ H Q I h => wpAny_Call_Name_kw (ld_glob I hg hm ?_ hdb)⟩
  refine PySem.W.callWith_K (h₀ := X.base) I.ok.mod.kin hk (thn (ha.run pos pins s σ H _ I h) fun us t ⟨vs, H1, J, r, q⟩ => ⟨J.kIn, ?_⟩) he hpl
  have q : sp vs H1 Q E := by simpa using q
  have := run_g (ks := []) (ws := []) (zs := []) F gd hr (kb_of hb) J r .nil q
  simpa using this
theorem lcall {σ : L2.St} {H : Hp} {Q : VK} (hio : ∀ i ∈ io, i < n) (hnd : io.Nodup) (h : lf X.K C (wCall n io fs wa) σ H Q) : tCall (spOf X.K n io fs) [] E (la X.K C wa) σ H Q := by
  obtain ⟨Γ, AV, Qv, R, h, kq⟩ := h
  refine ⟨Γ, AV, fun as Γ1 => callW n io fs Γ1 as Qv, R, h, fun as Γ1 vs H1 q p1 ra => ?_⟩
  simp only [callW] at q
  cases z : cD io Γ1 0 as with
  | none => simp only [z] at q
  | some ds =>
    simp only [z] at q
    obtain ⟨hlen, nd, q⟩ := q
    have nd := nodupB_of nd
    rw [List.append_nil]
    have hio' : ∀ i ∈ io, i < as.length := fun i hi => by rw [hlen]; exact hio i hi
    refine ⟨ds, _, _, by rw [← argReps_len ra, hlen], call_pre p1.rel ra z nd hio' hnd, q, fun d fl outs v H' q2 p2 => ?_⟩
    obtain ⟨Γ2, q3, p3⟩ := call_post p1.rel ra z nd hio' p2 q2
    exact kq _ _ _ _ _ q3 (p1.post p3)
theorem ve_callG (F : FnG X.prog X.w X.K X.mg X.base k f fd ps (spOf X.K n io fs)) (gd : X.A.guards = some []) (hr : Room k X.A) (hm : X.mg x = some (.ref f)) (hk : PySem.W.keepIn X.K (.ref f) = true) (hb : Binds X.K fd ps [])
    (ha : VA X C (e :: es) wa) (hio : ∀ i ∈ io, i < n := by decide) (hnd : io.Nodup := by decide) (hg : Gl X x := by rfl) (hdb : (x == ("__debug__" : Str)) = false := by decide) (he : starEach (e :: es) X.env = (false, eval e X.env) :: starEach es X.env := by rfl) (hpl : (backTo pos (starEach es X.env)).any (·.1) = false := by rfl) :
    VE X C (.Call (.Name x p) (e :: es) [] pos) (wCall n io fs wa) := PE.imp (pe_callG (E := fun _ _ _ => False) F gd hr hg hm hk hb ha hdb he hpl) fun σ H Q => lcall hio hnd

/-! ### keywords alone -/
def VK' (X : Cx) (C : Act) (kws : List Keyword) (w : WA) : Prop := PK X kws (la X.K C w)
theorem vk_nil : VK' X C [] aNil := ⟨fun pos pins s σ H Q I ⟨Γ, AV, Qv, R, h, k⟩ => pk_nil.run pos pins s σ H Q I (k _ _ _ _ h (PostT.refl R) rfl)⟩
theorem vk_cons {w : WO} {ws : WA} (ha : VO X C e w) (hr : VK' X C kws ws) : VK' X C (⟨nm, e, kpos⟩ :: kws) (aCons w ws) :=
  ⟨fun pos pins s σ H Q I ⟨Γ, AV, Qv, R, h, k⟩ => (pk_cons ha hr).run pos pins s σ H Q I ⟨Γ, AV, _, R, h, fun a Γ1 v H1 q p r => ⟨Γ1, AV, _, p.rel, q, fun as Γ2 vs H2 q2 p2 r2 =>
    k _ _ _ _ q2 (p.trans p2) ⟨v, vs, rfl, p2.arg r, r2⟩⟩⟩⟩
/-- the parameters' order: the i-th parameter is keyword js[i] -/
def permA (js : List Nat) (as : List Arg) : List Arg := js.filterMap fun (j : Nat) => as[j]?
def wPerm (js : List Nat) (wk : WA) : WA := fun Γ Q => wk Γ fun as Γ1 => Q (permA js as) Γ1
def permL {α : Type} (js : List Nat) (xs : List α) : List α := js.filterMap fun (j : Nat) => xs[j]?
theorem permL_rel : ∀ {js : List Nat} {vs : List V} {us : List Value}, Vals vs us → Vals (permL js vs) (permL js us)
  | [], _, _, _ => .nil
  | j :: js, vs, us, r => by
    have ih := permL_rel (js := js) r
    unfold permL at ih ⊢
    cases e : vs[j]? with
    | none =>
      have e2 : us[j]? = none := by
        rw [List.getElem?_eq_none_iff] at e ⊢
        rw [← r.length]; exact e
      simp only [List.filterMap_cons, e, e2]
      exact ih
    | some v =>
      obtain ⟨u, e2, ru⟩ := r.get e
      simp only [List.filterMap_cons, e, e2]
      exact .cons ru ih
theorem permL_args {K : PySem.W.Frag} {A : Addr → Prop} {Γ : G} {σ : L2.St} {H : Hp} : ∀ {js : List Nat} {as : List Arg} {vs : List V}, ArgReps K A Γ σ H as vs → ArgReps K A Γ σ H (permA js as) (permL js vs)
  | [], _, _, _ => rfl
  | j :: js, as, vs, r => by
    have ih := permL_args (js := js) r
    unfold permA permL at *
    cases e : as[j]? with
    | none =>
      have e2 : vs[j]? = none := by
        rw [List.getElem?_eq_none_iff] at e ⊢
        rw [← argReps_len r]; exact e
      simp only [List.filterMap_cons, e, e2]
      exact ih
    | some v =>
      obtain ⟨u, e2, ru⟩ := argReps_get' r e
      simp only [List.filterMap_cons, e, e2]
      exact ⟨u, _, rfl, ru, ih⟩
/-- keywords alone: the values in the parameters' order -/
def kgo {α : Type} (js : List Nat) : List α → List α → List α
  | [], ws => permL js ws
  | _ :: _, _ => []
theorem kbk_of {K : PySem.W.Frag} {js : List Nat} (h : ∀ ws : List Value, (permL js ws).length = ps.length → bindArgs fd ⟨[], ks.zip ws⟩ = pure (ps.zip (permL js ws))) (hp : ps ≠ []) : KBinds K fd ps ks (kgo js) (kgo js) := by
  refine ⟨fun s us ws _ hl => ?_, fun {vs us zs ws} r rz => ?_⟩
  · cases us with
    | nil => exact .of_eq (h ws hl)
    | cons u us => exact absurd (List.eq_nil_of_length_eq_zero hl.symm) hp
  · cases r with
    | nil => exact permL_rel rz
    | cons _ _ => exact .nil
theorem ve_callGK (js : List Nat) (F : FnG X.prog X.w X.K X.mg X.base k f fd ps (spOf X.K n io fs)) (gd : X.A.guards = some []) (hr : Room k X.A) (hm : X.mg x = some (.ref f)) (hk : PySem.W.keepIn X.K (.ref f) = true)
    (hb : KBinds X.K fd ps ks (kgo js) (kgo js)) (ha : VK' X C kws wk) (hio : ∀ i ∈ io, i < n := by decide) (hnd : io.Nodup := by decide) (hg : Gl X x := by rfl) (hdb : (x == ("__debug__" : Str)) = false := by decide)
    (hall : (backToKw pos (keywordEach kws X.env)).all (·.1.isSome) = true := by rfl) (hks : (backToKw pos (keywordEach kws X.env)).filterMap (·.1) = ks := by rfl)
    (hpl : ((backTo pos (starEach [] X.env)).any (·.1) || (backToKw pos (keywordEach kws X.env)).any (·.1.isNone)) = false := by rfl) :
    VE X C (.Call (.Name x p) [] kws pos) (wCall n io fs (wPerm js wk)) := by
  refine PE.imp (t := fun σ H Q => la X.K C wk σ H fun zs H1 => spOf X.K n io fs (permL js zs) H1 Q fun _ _ _ => False) ⟨fun pins s σ H Q I h => ?_⟩ fun σ H Q h => ?_
  · refine wpAny_Call_Name_kw (ld_glob I hg hm ?_ hdb)
    refine PySem.W.callWith_KW0 (h₀ := X.base) I.ok.mod.kin hk hall (thn (ha.run pos pins s σ H _ I h) fun ws t ⟨zs, H1, J, rz, q⟩ => ⟨J.kIn, ?_⟩) hpl
    rw [hks]
    exact run_g (us := []) (vs := []) F gd hr hb J .nil rz q
  · obtain ⟨Γ, AV, Qv, R, h, kq⟩ := h
    refine ⟨Γ, AV, fun as Γ1 => callW n io fs Γ1 (permA js as) Qv, R, h, fun as Γ1 vs H1 q p1 ra => ?_⟩
    have ra := permL_args (js := js) ra
    simp only [callW] at q
    cases z : cD io Γ1 0 (permA js as) with
    | none => simp only [z] at q
    | some ds =>
      simp only [z] at q
      obtain ⟨hlen, nd, q⟩ := q
      have nd := nodupB_of nd
      have hio' : ∀ i ∈ io, i < (permA js as).length := fun i hi => by rw [hlen]; exact hio i hi
      refine ⟨ds, _, _, by rw [← argReps_len ra, hlen], call_pre p1.rel ra z nd hio' hnd, q, fun d fl outs v H' q2 p2 => ?_⟩
      obtain ⟨Γ2, q3, p3⟩ := call_post p1.rel ra z nd hio' p2 q2
      exact kq _ _ _ _ _ q3 (p1.post p3)
end
end VL

-- VS
/-! VS: the end of a law whose defs show things. -/
namespace VL
open PySem PySem.Spec L2 PyProof.Rows
/-- the script alone, or nothing -/
def OnlyAt (a : Addr) (vs : List Value) (ns : List Int) (H : Hp) : Prop := ∀ b u, H b = some u → b = a ∧ u = .frz { cls := .type "list", data := .seq vs.toArray } (.lst (ns.map V.int))
theorem law_core {P : Program} {w : World} {K : PySem.W.Frag} {mg mb : Str → Option Value} {k : Nat} {fa a : Addr} {fd : FuncData} {x : Str} {sp : Sp} {t : Shared} {vs : List Value} {ns : List Int} {H : Hp}
    (kin : K.In t.heap) (nsG : t.heap.Ns mainGlobals mg) (nsB : t.heap.Ns builtinsNs mb) (boot : ∀ y : Str, y ≠ "__name__" → mb y = bootBuiltins y) (nolim : t.heap.NoLimit) (gens : t.gens = #[])
    (obj : t.heap.get? a = some { cls := .type "list", data := .seq vs.toArray }) (room : Room k callerA)
    (F : ∀ base : Heap, K.In base → base.Ns mainGlobals mg → FnG P w K mg base k fa fd [x] sp) (bind : ∀ (s : Shared) (u : Value), BindsTo s fd ⟨[u], []⟩ [(x, u)])
    (hO : OnlyAt a vs ns H) (hok : HOk P w H t.heap) (hK : H a ≠ none → K.lookup a = none) (wish : sp [.ref a] H (fun v _ => v = .bl true) fun _ _ _ => False) :
    codeAny (model P w) callerA (.call (.ref fa) ⟨[.ref a], []⟩) (fun r s' => r = .ok (.ret (.bool true)) ∧ OldK t.heap s'.heap ∧ s'.os = t.os ∧ AllBare s'.gens) t := by
  have keep : ∀ {b : Addr} {o : Obj}, t.heap.get? b = some o → H b = none → (hidT t.heap H).get? b = some o := fun e n => hidT_get e n
  have notSeq : ∀ {b : Addr} {o : Obj} {es : Array DictEntry} {ep : Nat}, t.heap.get? b = some o → o.data = .dict es ep → H b = none := fun {b o es ep} e d => by
    cases q : H b with
    | none => rfl
    | some u =>
      obtain ⟨rfl, _⟩ := hO b u q
      rw [obj] at e
      cases e
      cases d
  have nsK : ∀ {b : Addr} {m : Str → Option Value}, t.heap.Ns b m → (hidT t.heap H).Ns b m := fun {b m} ⟨o, es, ep, e, d, r⟩ => ⟨o, es, ep, keep e (notSeq e d), d, r⟩
  have kinB : K.In (hidT t.heap H) := fun b o e => keep (kin b o e) (by
    cases q : H b with
    | none => rfl
    | some u =>
      obtain ⟨rfl, _⟩ := hO b u q
      have := hK (by rw [q]; exact fun z => nomatch z)
      rw [this] at e
      cases e)
  have md : Mod K mg (hidT t.heap H) := ⟨kinB, nsK nsG, ⟨mb, nsK nsB, boot⟩, let ⟨mc, h1, h2⟩ := nolim; ⟨mc, nsK h1, h2⟩⟩
  have e0 : Env0 P w K mg (hidT t.heap H) callerA [] t H := ⟨rfl, md, fun b o e => of_hidT e, Nat.le_of_eq (hidT_size _ _), trivial, fun b hb => absurd (show b ∈ ([] : List Addr) from hb) (by simp), hok, .of_eq gens⟩
  refine codeAny_mono ((F _ kinB (nsK nsG)).go callerA [] t H ⟨[.ref a], []⟩ [.ref a] [.ref a] _ _ rfl room e0 (bind t (.ref a)) (.cons rfl .nil) wish) fun r s' h => ?_
  match r, h with
  | .ok (.ret u), ⟨v, H', os, bare, un, hok', r', q⟩ =>
    have q : v = .bl true := q
    subst q
    obtain rfl : u = Value.bool true := r'
    refine ⟨rfl, OldK.of_keep fun b o e => ?_, os, bare⟩
    cases q : H b with
    | none => exact un.keep b o e q (fun z => nomatch z) (fun z => nomatch z)
    | some u =>
      obtain ⟨_, rfl⟩ := hO b u q
      obtain ⟨e1, _⟩ := hok b _ q
      obtain ⟨e2, _⟩ := hok' b _ (un.frzs b _ _ q)
      rw [e] at e1
      cases e1
      exact e2
theorem law_callG {P : Program} {w : World} {K : PySem.W.Frag} {mg mb : Str → Option Value} {k : Nat} {fa a : Addr} {fd : FuncData} {x : Str} {sp : Sp} {t : Shared} {vs : List Value} {ns : List Int}
    (kin : K.In t.heap) (nsG : t.heap.Ns mainGlobals mg) (nsB : t.heap.Ns builtinsNs mb) (boot : ∀ y : Str, y ≠ "__name__" → mb y = bootBuiltins y) (nolim : t.heap.NoLimit) (gens : t.gens = #[])
    (obj : t.heap.get? a = some { cls := .type "list", data := .seq vs.toArray }) (hInts : IntsAre vs ns) (small : ns.length ≤ sizeLine) (room : Room k callerA)
    (F : ∀ base : Heap, K.In base → base.Ns mainGlobals mg → FnG P w K mg base k fa fd [x] sp) (bind : ∀ (s : Shared) (u : Value), BindsTo s fd ⟨[u], []⟩ [(x, u)])
    (wish : ∀ H : Hp, SqL K H a (ns.map V.int) → sp [.ref a] H (fun v _ => v = .bl true) fun _ _ _ => False) :
    codeAny (model P w) callerA (.call (.ref fa) ⟨[.ref a], []⟩) (fun r s' => r = .ok (.ret (.bool true)) ∧ OldK t.heap s'.heap ∧ s'.os = t.os ∧ AllBare s'.gens) t := by
  have rv := vals_ints hInts
  have size : vs.length = ns.length := hInts.length
  cases hk : K.lookup a with
  | some o =>
    have e := kin a o hk
    rw [obj] at e
    cases e
    exact law_core (H := fun _ => none) (ns := ns) kin nsG nsB boot nolim gens obj room F bind (fun b u z => nomatch z) (fun b u z => nomatch z) (fun z => absurd rfl z)
      (wish _ (.inr ⟨_, vs.toArray, _, hk, rfl, rfl, rfl, by rw [List.size_toArray, size]; exact small, by simpa using rv⟩))
  | none =>
    refine law_core (H := fun b => if b = a then some (.frz { cls := .type "list", data := .seq vs.toArray } (.lst (ns.map V.int))) else none) (ns := ns) kin nsG nsB boot nolim gens obj room F bind (fun b u z => ?_) (fun b u z => ?_) (fun _ => hk)
      (wish _ (.inl (.inr ⟨{ cls := .type "list", data := .seq vs.toArray }, if_pos rfl⟩)))
    · by_cases hb : b = a
      · exact ⟨hb, (Option.some.inj ((if_pos hb).symm.trans z)).symm⟩
      · have z := (if_neg hb).symm.trans z
        cases z
    · by_cases hb : b = a
      · have z := (if_pos hb).symm.trans z
        cases z
        subst hb
        exact ⟨obj, by rw [List.length_map]; exact small, vs, _, rv, obj⟩
      · have z := (if_neg hb).symm.trans z
        cases z
/-- the goal that k_head leaves -/
theorem walk_ofG {l : PySem.W.OpenLaw} {n k : Nat} {q : Program} {loose : List Str} {XP : (Str → Option Value) → Heap → Prop} {YP : World → Heap → Prop} {d : DefRec} {K : Params → PySem.W.Frag} {fs : FS} {x : Str}
    (most : l.most = some n) (le : n ≤ sizeLine) (dflt : d.params.defaults = []) (room : Room k callerA) (inn : ∀ (w : World) (h : Heap), YP w h → (K w.params).In h)
    (F : ∀ (w : World) (mg : Str → Option Value) (fa : Addr) (h : Heap), (K w.params).In h → h.Ns mainGlobals mg → mg d.name = some (.ref fa) →
      ∃ fd : FuncData, (∀ (s : Shared) (u : Value), BindsTo s fd ⟨[u], []⟩ [(x, u)]) ∧ ∀ base : Heap, (K w.params).In base → base.Ns mainGlobals mg → FnG l.prog w (K w.params) mg base k fa fd [x] (spOf (K w.params) 1 [] fs))
    (law : ∀ ns : List Int, ns.length ≤ n → fs [.fz (ns.map D.int)] fun d _ _ => d = .bl true) :
    PySem.W.WalkO q loose XP YP l.row.toRowW d [] (fun f vs => PySem.call f vs) := by
  refine Att.attach_call most dflt fun w s₀ t mg mb fa o pm cd doc a vs ns G Y ho hd hcd hmg obj hInts len gens => ?_
  have kin := inn w _ Y
  obtain ⟨fd, bind, hF⟩ := F w mg fa _ kin G.T.g hmg
  refine law_callG kin G.T.g G.T.b G.T.builtins G.T.nolimit gens obj hInts (Nat.le_trans len le) room hF bind fun H hs => ?_
  refine ⟨[.fz (ns.map D.int)], fun _ => False, _, rfl, ⟨rfl, fun _ z => z.elim, fun i d v hi e1 e2 => ?_, fun i hi => (nomatch hi), fun i j a hi => (nomatch hi)⟩, law ns len, fun d fl outs v H' q p => ?_⟩
  · cases i with
    | zero =>
      cases e1
      cases e2
      refine ⟨a, _, rfl, ?_, repsInt ns⟩
      rcases hs with hs | hs
      · exact .inl ⟨fun z => z, hs⟩
      · exact .inr hs
    | succ i => simp at e1
  · subst q
    cases fl with
    | false => exact p.val
    | true =>
      obtain ⟨_, _, _, _, z, _⟩ := p.val
      cases z
end VL

-- VT
/-! VT: defs by name; loops and comprehensions by what stands at each turn. -/
namespace VL
open PySem PySem.Spec L2 PyProof.Rows

/-- the name x is the def st -/
def At (K : PySem.W.Frag) (mg : Str → Option Value) (x : Str) (st : Stmt) : Prop := ∃ f fd, mg x = some (.ref f) ∧ Fun K x x st f fd
def Ok (P : Program) (w : World) (K : PySem.W.Frag) (mg : Str → Option Value) (base : Heap) (k : Nat) (x : Str) (st : Stmt) (ps : List Str) (io : List Nat) (fs : FS) : Prop :=
  ∃ f fd, mg x = some (.ref f) ∧ Fun K x x st f fd ∧ Binds K fd ps [] ∧ FnOk P w K mg base CX0 k f fd ps (spOf K ps.length io fs)
def OkG (P : Program) (w : World) (K : PySem.W.Frag) (mg : Str → Option Value) (base : Heap) (k : Nat) (x : Str) (st : Stmt) (ps : List Str) (io : List Nat) (fs : FS) : Prop :=
  ∃ f fd, mg x = some (.ref f) ∧ Fun K x x st f fd ∧ Binds K fd ps [] ∧ FnG P w K mg base k f fd ps (spOf K ps.length io fs)
/-- what a body does, by trees -/
def Sem (n m : Nat) (io : List Nat) (b : WS) (fs : FS) : Prop :=
  ∀ ds Qv, ds.length = n → fs ds Qv → b { nx := fun Γ => Qv .non false (outsOf io Γ), rt := fun d fl Γ => Qv d fl (outsOf io Γ) } (startG io m ds)
section
variable {P : Program} {w : World} {K : PySem.W.Frag} {mg : Str → Option Value} {base : Heap} {x : Str} {st : Stmt} {N ps : List Str} {k : Nat} {io : List Nat} {fs : FS}
theorem vfnO (a : At K mg x st) (S : FnScope N ps (defScope st))
    (h : ∀ (kV doc pm : Value) (an : Option Addr) (cdv ct : Value) (us : List Value), us.length = ps.length → bindArgs (PySem.W.fnOf x x (defArgs st) (defBody st) (defScope st) .none kV doc pm an cdv ct) ⟨us, []⟩ = pure (ps.zip us))
    (hbody : ∀ (C : Act) (cdv : Value) (A : Around) (outer : List Env) (s : Shared) (H : Hp) (E : XK) {f : Addr}, Room k (A.deeper (PyProof.Rows.envOfC x (defScope st) s.heap.objs.size f cdv)) →
      ∃ wb, VSs (cxOf CX0 P w K mg base N x (defScope st) f cdv A outer s H E).nox C (defBody st) wb ∧ Sem ps.length N.length io wb fs) : Ok P w K mg base (k + 1) x st ps io fs := by
  obtain ⟨f, fd, hm, F⟩ := a
  exact ⟨f, fd, hm, F, F.binds h, vfn F S fun C cdv A outer s H E hr => hbody C cdv A outer s H E hr⟩
theorem vfnGO (a : At K mg x st) (S : FnScope N ps (defScope st))
    (h : ∀ (kV doc pm : Value) (an : Option Addr) (cdv ct : Value) (us : List Value), us.length = ps.length → bindArgs (PySem.W.fnOf x x (defArgs st) (defBody st) (defScope st) .none kV doc pm an cdv ct) ⟨us, []⟩ = pure (ps.zip us))
    (hbody : ∀ (C : Act) (cdv : Value) (A : Around) (outer : List Env) (s : Shared) (H : Hp) (E : XK) {f : Addr}, A.guards = some [] → Room k (A.deeper (PyProof.Rows.envOfC x (defScope st) s.heap.objs.size f cdv)) →
      ∃ wb, VSs (cxOf CX0 P w K mg base N x (defScope st) f cdv A outer s H E).nox C (defBody st) wb ∧ Sem ps.length N.length io wb fs) : OkG P w K mg base (k + 1) x st ps io fs := by
  obtain ⟨f, fd, hm, F⟩ := a
  exact ⟨f, fd, hm, F, F.binds h, vfnG F S fun C cdv A outer s H E gd hr => hbody C cdv A outer s H E gd hr⟩
theorem hu_of {A : Around} (r : Room k A) : A.units + 64 < cLine := by
  have := r.un
  omega
theorem Ok.g (h : Ok P w K mg base k x st ps io fs) : OkG P w K mg base k x st ps io fs := by
  obtain ⟨f, fd, h1, h2, h3, h4⟩ := h
  exact ⟨f, fd, h1, h2, h3, .of h4⟩
theorem Ok.mono {j : Nat} (h : Ok P w K mg base j x st ps io fs) (hj : j ≤ k) : Ok P w K mg base k x st ps io fs := by
  obtain ⟨f, fd, h1, h2, h3, h4⟩ := h
  exact ⟨f, fd, h1, h2, h3, h4.mono hj⟩
theorem OkG.mono {j : Nat} (h : OkG P w K mg base j x st ps io fs) (hj : j ≤ k) : OkG P w K mg base k x st ps io fs := by
  obtain ⟨f, fd, h1, h2, h3, h4⟩ := h
  exact ⟨f, fd, h1, h2, h3, h4.len, fun B stk t G given us vs Q E gd room => h4.go B stk t G given us vs Q E gd (room.mono hj)⟩
end
section
variable {X : Cx} {C : Act} {e a b c : Expr} {es : List Expr} {kws : List Keyword} {pos p kpos : Pos} {ps ks : List Str} {k : Nat} {io : List Nat} {fs : FS} {wa wk : WA} {x : Str} {st : Stmt}
theorem ve_callO {n : Nat} (h : Ok X.prog X.w X.K X.mg X.base k x st ps io fs) (hr : Room k X.A) (ha : VA X C (e :: es) wa) (hn : ps.length = n := by rfl) (hio : ∀ i ∈ io, i < n := by decide) (hnd : io.Nodup := by decide) (hg : Gl X x := by rfl) (hdb : (x == ("__debug__" : Str)) = false := by decide)
    (he : starEach (e :: es) X.env = (false, eval e X.env) :: starEach es X.env := by rfl) (hpl : (backTo pos (starEach es X.env)).any (·.1) = false := by rfl) : VE X C (.Call (.Name x p) (e :: es) [] pos) (wCall n io fs wa) := by
  subst hn
  obtain ⟨f, fd, hm, hk, hb, F⟩ := h
  exact ve_call F hr hm hk.kp hb ha hio hnd hg hdb he hpl
theorem ve_callOG {n : Nat} (gd : X.A.guards = some []) (h : OkG X.prog X.w X.K X.mg X.base k x st ps io fs) (hr : Room k X.A) (ha : VA X C (e :: es) wa) (hn : ps.length = n := by rfl) (hio : ∀ i ∈ io, i < n := by decide) (hnd : io.Nodup := by decide) (hg : Gl X x := by rfl) (hdb : (x == ("__debug__" : Str)) = false := by decide)
    (he : starEach (e :: es) X.env = (false, eval e X.env) :: starEach es X.env := by rfl) (hpl : (backTo pos (starEach es X.env)).any (·.1) = false := by rfl) : VE X C (.Call (.Name x p) (e :: es) [] pos) (wCall n io fs wa) := by
  subst hn
  obtain ⟨f, fd, hm, hk, hb, F⟩ := h
  exact ve_callG F gd hr hm hk.kp hb ha hio hnd hg hdb he hpl
theorem ve_callKG {n : Nat} (js : List Nat) (gd : X.A.guards = some []) (h : OkG X.prog X.w X.K X.mg X.base k x st ps io fs) (hr : Room k X.A)
    (hb : ∀ (kV doc pm : Value) (an : Option Addr) (cdv ct : Value) (ws : List Value), (permL js ws).length = ps.length → bindArgs (PySem.W.fnOf x x (defArgs st) (defBody st) (defScope st) .none kV doc pm an cdv ct) ⟨[], ks.zip ws⟩ = pure (ps.zip (permL js ws)))
    (ha : VK' X C kws wk) (hn : ps.length = n := by rfl) (hp : ps ≠ [] := by decide) (hio : ∀ i ∈ io, i < n := by decide) (hnd : io.Nodup := by decide) (hg : Gl X x := by rfl) (hdb : (x == ("__debug__" : Str)) = false := by decide)
    (hall : (backToKw pos (keywordEach kws X.env)).all (·.1.isSome) = true := by rfl) (hks : (backToKw pos (keywordEach kws X.env)).filterMap (·.1) = ks := by rfl)
    (hpl : ((backTo pos (starEach [] X.env)).any (·.1) || (backToKw pos (keywordEach kws X.env)).any (·.1.isNone)) = false := by rfl) : VE X C (.Call (.Name x p) [] kws pos) (wCall n io fs (wPerm js wk)) := by
  subst hn
  obtain ⟨f, fd, hm, hk, _, F⟩ := h
  refine ve_callGK js F gd hr hm hk.kp ?_ ha hio hnd hg hdb hall hks hpl
  obtain ⟨oc, od, kV, doc, pm, an, cdv, ct, osl, rfl, lk, hcd⟩ := hk.ex
  exact kbk_of (hb kV doc pm an cdv ct) hp
theorem ve_gint {i : Int} (h : ∃ t, X.mg x = some (.int i t)) (hg : Gl X x := by rfl) (hdb : (x == ("__debug__" : Str)) = false := by decide) : VE X C (.Name x pos) (wC (.int i)) := by
  obtain ⟨t, h⟩ := h
  exact ve_glob hg h rfl ⟨t, rfl⟩ hdb
end
end VL
namespace VL
open PySem PySem.Spec L2 PyProof.Rows
theorem At.mk {K : PySem.W.Frag} {h : Heap} {mg : Str → Option Value} {x : Str} {st : Stmt} {f : Addr} {oc kV dc pm cd ct : Value} {od an : Option Addr} {sl : Array (Option Value)} (X : K.In h) (G : h.Ns mainGlobals mg) (a : PySem.W.nsIn K mainGlobals x = some (some (.ref f)))
    (l : K.lookup f = some ⟨oc, od, .func (PySem.W.fnOf x x (defArgs st) (defBody st) (defScope st) .none kV dc pm an cd ct), sl⟩) (c : PySem.W.codeIn K cd x = true) (k : PySem.W.keepIn K (.ref f) = true) : At K mg x st := ⟨f, _, PySem.W.mg_of X G a, fun_mk (st := st) l c k⟩
theorem cst_mk {K : PySem.W.Frag} {h : Heap} {mg : Str → Option Value} {x : Str} {i : Int} {t : Tok} (X : K.In h) (G : h.Ns mainGlobals mg) (a : PySem.W.nsIn K mainGlobals x = some (some (.int i t))) : ∃ t, mg x = some (.int i t) := ⟨t, PySem.W.mg_of X G a⟩
theorem OkG.fn {P : Program} {w : World} {K : PySem.W.Frag} {mg : Str → Option Value} {base : Heap} {k : Nat} {x : Str} {st : Stmt} {ps : List Str} {io : List Nat} {fs : FS} {f : Addr} {oc : Value} {od : Option Addr} {fd : FuncData} {sl : Array (Option Value)} (h : OkG P w K mg base k x st ps io fs)
    (hm : mg x = some (.ref f)) (l : K.lookup f = some ⟨oc, od, .func fd, sl⟩) : FnG P w K mg base k f fd ps (spOf K ps.length io fs) := by
  obtain ⟨f', fd', hm', F, _, G⟩ := h
  have e := hm.symm.trans hm'
  cases e
  obtain ⟨oc', od', kV, doc, pm, an, cdv, ct, osl, e1, lk, hcd⟩ := F.ex
  rw [l] at lk
  cases lk
  exact G
end VL

-- VU
/-! VU: loops, comprehensions and whiles by what stands at each turn. -/
namespace VL
open PySem PySem.Spec L2 PyProof.Rows
theorem loop_inv {g : WG} {body : WS} {E : VEnds} (I : Nat → G → Prop) {items : List D} {Γ : G} (h0 : I 0 Γ)
    (hs : ∀ (i : Nat) d Γ (k : G → Prop), items[i]? = some d → I i Γ → (∀ Γ', I (i + 1) Γ' → k Γ') → g d Γ fun Γ2 => body { E with nx := k, ct := k, bk := E.nx } Γ2) (hd : ∀ Γ, I items.length Γ → E.nx Γ) : loopW g body E items Γ := by
  have key : ∀ (xs : List D) (i : Nat) (Γ : G), (∀ j, xs[j]? = items[i + j]?) → i + xs.length = items.length → I i Γ → loopW g body E xs Γ := by
    intro xs
    induction xs with
    | nil =>
      intro i Γ _ hl h
      have e : i = items.length := by simpa using hl
      subst e
      exact hd Γ h
    | cons d ds ih =>
      intro i Γ hx hl h
      refine hs i d Γ _ (by simpa using (hx 0).symm) h fun Γ' h' => ih (i + 1) Γ' (fun j => ?_) (by simp at hl; omega) h'
      have := hx (j + 1)
      simpa [Nat.add_assoc, Nat.add_comm 1 j] using this
  exact key items 0 Γ (by simp) (by simp) h0
theorem lc_inv {g : WG} {tt : WT} {te : WE} {vs : List Nat} {k : List D → G → Prop} (I : Nat → List D → G → Prop) {items : List D} {Γ : G} (h0 : I 0 [] Γ)
    (hs : ∀ (i : Nat) d acc Γ (k : List D → G → Prop), items[i]? = some d → I i acc Γ → (∀ acc' Γ', I (i + 1) acc' Γ' → k acc' Γ') →
      g d Γ fun Γ2 => tt Γ2 fun b Γ3 => if b = true then te Γ3 fun y _ Γ4 => acc.length < LN ∧ plainAt Γ4 vs = true ∧ k (acc ++ [y]) (gWipe vs Γ4) else plainAt Γ3 vs = true ∧ k acc (gWipe vs Γ3))
    (hd : ∀ acc Γ, I items.length acc Γ → k acc Γ) : lcGo g tt te vs k items [] Γ := by
  have key : ∀ (xs : List D) (i : Nat) (acc : List D) (Γ : G), (∀ j, xs[j]? = items[i + j]?) → i + xs.length = items.length → I i acc Γ → lcGo g tt te vs k xs acc Γ := by
    intro xs
    induction xs with
    | nil =>
      intro i acc Γ _ hl h
      have e : i = items.length := by simpa using hl
      subst e
      exact hd acc Γ h
    | cons d ds ih =>
      intro i acc Γ hx hl h
      refine hs i d acc Γ (fun acc Γ => lcGo g tt te vs k ds acc Γ) (by simpa using (hx 0).symm) h fun acc' Γ' h' => ih (i + 1) acc' Γ' (fun j => ?_) (by simp at hl; omega) h'
      have := hx (j + 1)
      simpa [Nat.add_assoc, Nat.add_comm 1 j] using this
  exact key items 0 [] Γ (by simp) (by simp) h0
/-- every turn leaves the slots as they are; what it adds: f of its item -/
theorem lc_fm {g : WG} {tt : WT} {te : WE} {vs : List Nat} {k : List D → G → Prop} (f : D → Option D) {items : List D} {Γ : G} (hl : items.length < LN)
    (hs : ∀ d acc (k : List D → G → Prop), d ∈ items → acc.length < LN → k (acc ++ (f d).toList) Γ →
      g d Γ fun Γ2 => tt Γ2 fun b Γ3 => if b = true then te Γ3 fun y _ Γ4 => acc.length < LN ∧ plainAt Γ4 vs = true ∧ k (acc ++ [y]) (gWipe vs Γ4) else plainAt Γ3 vs = true ∧ k acc (gWipe vs Γ3))
    (hd : k (items.filterMap f) Γ) : lcGo g tt te vs k items [] Γ := by
  refine lc_inv (fun i acc Γ' => Γ' = Γ ∧ acc = (items.take i).filterMap f ∧ acc.length ≤ i) ⟨rfl, by simp, by simp⟩ (fun i d acc Γ' k e ⟨h1, h2, h3⟩ hk => ?_) (fun acc Γ' ⟨h1, h2, _⟩ => by rw [h1, h2, List.take_length]; exact hd)
  subst h1
  have hi : i < items.length := (List.getElem?_eq_some_iff.mp e).1
  refine hs d acc k (List.mem_of_getElem? e) (by omega) (hk _ _ ⟨rfl, ?_, ?_⟩)
  · rw [List.take_add_one, e, List.filterMap_append, ← h2]
    cases z : f d <;> simp [z]
  · rw [List.length_append]
    cases f d <;> simp <;> omega
theorem lc_map {g : WG} {te : WE} {vs : List Nat} {k : List D → G → Prop} (f : D → D) {items : List D} {Γ : G} (hl : items.length < LN)
    (hs : ∀ d acc (k : List D → G → Prop), d ∈ items → acc.length < LN → k (acc ++ [f d]) Γ → g d Γ fun Γ3 => te Γ3 fun y _ Γ4 => acc.length < LN ∧ plainAt Γ4 vs = true ∧ k (acc ++ [y]) (gWipe vs Γ4))
    (hd : k (items.map f) Γ) : lcGo g tTrue te vs k items [] Γ := by
  refine lc_fm (fun d => some (f d)) hl (fun d acc k h1 h2 h3 => ?_) (by simpa using hd)
  simpa [tTrue] using hs d acc k h1 h2 (by simpa using h3)
theorem while_inv {t : WT} {u : WS} {E : VEnds} (I : Nat → G → Prop) {m : Nat} {Γ : G} (h0 : I m Γ)
    (hs : ∀ m Γ (k : G → Prop), I m Γ → (∀ m' Γ', m' < m → I m' Γ' → k Γ') → t Γ fun b Γ1 => if b = true then u { E with nx := k, ct := k, bk := E.nx } Γ1 else E.nx Γ1) : sWhile t u E Γ := by
  refine ⟨m + 1, ?_⟩
  have key : ∀ n m Γ, m < n → I m Γ → whileN t u E n Γ := by
    intro n
    induction n with
    | zero => intro m Γ h; omega
    | succ n ih => intro m Γ h hI; exact hs m Γ _ hI fun m' Γ' h1 h2 => ih m' Γ' (by omega) h2
  exact key _ _ _ (Nat.lt_succ_self _) h0
/-! ### reading and writing by place -/
theorem ixN_pos {n : Nat} {i : Int} (h0 : 0 ≤ i) (h1 : i < n) : ixN n i = some i.toNat := by
  unfold ixN
  rw [if_pos h0, if_pos h1]
theorem atI_pos {α : Type} {xs : List α} {i : Int} (h0 : 0 ≤ i) (h1 : i < xs.length) : atI xs i = xs[i.toNat]? := by
  unfold atI
  rw [ixN_pos h0 h1]
  rfl
theorem optI_int {ns : List Int} {i : Int} {Q : D → Bool → Prop} (h0 : 0 ≤ i) (h1 : i < ns.length) (h : Q (.int (ns.getD i.toNat 0)) false) : optI (atI (ns.map D.int) i) Q := by
  rw [atI_pos h0 (by simpa using h1)]
  have hl : i.toNat < ns.length := by omega
  rw [List.getElem?_map, List.getElem?_eq_getElem hl]
  rw [List.getD_eq_getElem?_getD, List.getElem?_eq_getElem hl] at h
  exact h
theorem optI_at {ds : List D} {i : Int} {d : D} {Q : D → Bool → Prop} (h0 : 0 ≤ i) (e : ds[i.toNat]? = some d) (h : Q d false) : optI (atI ds i) Q := by
  have hl : i.toNat < ds.length := (List.getElem?_eq_some_iff.mp e).1
  rw [atI_pos h0 (by omega), e]
  exact h
theorem onN_pos {n : Nat} {i : Int} {k : Nat → Prop} (h0 : 0 ≤ i) (h1 : i < n) (h : k i.toNat) : onN (ixN n i) k := by
  rw [ixN_pos h0 h1]
  exact h
/-- a slot of a loop's own name: nothing yet, or a value -/
def oS : Option D → Slot
  | none => .un
  | some d => .sh d
def noIo : Slot → Bool
  | .io _ => false
  | _ => true
theorem gPut_eq (Γ : G) (i : Nat) (s : Slot) (k : G → Prop) : gPut Γ i s k = if noIo (gAt Γ i) = true then k (gSet Γ i s) else False := by
  unfold gPut
  cases gAt Γ i <;> simp [noIo]
@[simp] theorem noIo_oS (o : Option D) : noIo (oS o) = true := by cases o <;> rfl
@[simp] theorem isA_oS (o : Option D) : (oS o).isA = false := by cases o <;> rfl
theorem noIo_un : noIo .un = true := rfl
theorem noIo_sh (d : D) : noIo (.sh d) = true := rfl
theorem noIo_ac (d : List D) : noIo (.ac d) = true := rfl
theorem noIo_io (d : List D) : noIo (.io d) = false := rfl
theorem isA_un : Slot.un.isA = false := rfl
theorem isA_sh (d : D) : (Slot.sh d).isA = false := rfl
theorem isA_ac (d : List D) : (Slot.ac d).isA = true := rfl
theorem isA_io (d : List D) : (Slot.io d).isA = true := rfl
theorem un_oS : Slot.un = oS none := rfl
theorem sh_oS (d : D) : Slot.sh d = oS (some d) := rfl
end VL
open PySem PySem.Spec L2 VL PyProof.Rows
local macro_rules | `(tactic| walk_at "vs") => `(tactic| simp only [sCons, sNil, sPass, sBreak, sCont, sDrop, sNever, sRet, sRetN, sRetV, sIf, sSet, sAsg, sPar, sFor, wVar, oVar, wC, oE, aNil, aCons, w2, opt2, w1, opt1, argD, slD, gAt, gSet, gPut_eq, noIo_un, noIo_sh, noIo_ac, noIo_io, noIo_oS, isA_oS, isA_un, isA_sh, isA_ac, isA_io, slotOf, gNm, gTp, gsNil, gsCons, gSubN, gWr, tV, isB, tNotW, tAndW, tOrW, tTrue,
  wAndV, wOrV, wNotV, wIf, wChain, wTup, wLst, allV, vAdd, vSub, vMul, vDiv, vMod, vPow, vII, vEq, vNe, vEqS, vNeS, vIx, vNeg, vIsN, wSl, vSl, pNone, pSome, isI, wB, argsD, oLen, oList, oTuple, oSum, oMax, oMin, oAbs, oInt, oDivmod, oGcd, oAll, oAny, oSorted, oRepr, seqD, isInts_map, isBls_map, wIsi, fNil, fCons, gPuts, wCall, callW, cD, cJ, nodupB, putOuts,
  iSeq, iRange1, iRange2, iRange3, iEnum1, iZip2, iZip3, allI, allVs, seqs, wLc, plainAt, gWipe, gBack, outsOf, startG, startGo, ioS, Slot.its, Slot.to, onI, wApp, wExt, wPop, wPerm, permA, List.filterMap_cons, List.filterMap_nil, List.contains_nil, List.contains_cons, List.elem_nil, List.elem_cons, List.replicate, List.append_nil, List.nil_append, List.cons_append, List.length_cons, List.length_nil, List.map_cons, List.map_nil,
  Nat.reduceSub, Nat.reduceAdd, Nat.reduceBEq, Nat.reduceLT, Nat.reduceLeDiff, Bool.or_false, Bool.false_or, Bool.or_true, Bool.true_or, Bool.and_true, Bool.true_and, Bool.not_false, Bool.not_true, Bool.false_eq_true, if_true, if_false, reduceIte, reduceCtorEq, and_true, true_and, Option.map_some, Option.map_none, Option.bind_some, Option.bind_eq_bind, Option.isSome_some, List.getElem?_cons_zero, List.getElem?_cons_succ, beq_self_eq_true, Nat.zero_add, Nat.add_zero, ite_true, ite_false, Bool.or_self, Bool.and_self])
namespace VL
open PySem PySem.Spec L2 PyProof.Rows
theorem lc_fmT {α : Type} {g : WG} {tt : WT} {te : WE} {vs : List Nat} {k : List D → G → Prop} {L : List α} {h : α → D} (f : α → Option D) {Γ : G} (hl : L.length < LN)
    (hs : ∀ a acc (k : List D → G → Prop), a ∈ L → acc.length < LN → k (acc ++ (f a).toList) Γ →
      g (h a) Γ fun Γ2 => tt Γ2 fun b Γ3 => if b = true then te Γ3 fun y _ Γ4 => acc.length < LN ∧ plainAt Γ4 vs = true ∧ k (acc ++ [y]) (gWipe vs Γ4) else plainAt Γ3 vs = true ∧ k acc (gWipe vs Γ3))
    (hd : k (L.filterMap f) Γ) : lcGo g tt te vs k (L.map h) [] Γ := by
  refine lc_inv (fun i acc Γ' => Γ' = Γ ∧ acc = (L.take i).filterMap f ∧ acc.length ≤ i) ⟨rfl, by simp, by simp⟩ (fun i d acc Γ' k e ⟨h1, h2, h3⟩ hk => ?_) (fun acc Γ' ⟨h1, h2, _⟩ => by rw [h1, h2, List.length_map, List.take_length]; exact hd)
  subst h1
  rw [List.getElem?_map] at e
  cases z : L[i]? with
  | none => rw [z] at e; cases e
  | some a =>
    rw [z] at e
    cases e
    have hi : i < L.length := (List.getElem?_eq_some_iff.mp z).1
    refine hs a acc k (List.mem_of_getElem? z) (by omega) (hk _ _ ⟨rfl, ?_, ?_⟩)
    · rw [List.take_add_one, z, List.filterMap_append, ← h2]
      cases y : f a <;> simp [y]
    · rw [List.length_append]
      cases f a <;> simp <;> omega
theorem lc_mapT {α : Type} {g : WG} {te : WE} {vs : List Nat} {k : List D → G → Prop} {L : List α} {h : α → D} (f : α → D) {Γ : G} (hl : L.length < LN)
    (hs : ∀ a acc (k : List D → G → Prop), a ∈ L → acc.length < LN → k (acc ++ [f a]) Γ → g (h a) Γ fun Γ3 => te Γ3 fun y _ Γ4 => acc.length < LN ∧ plainAt Γ4 vs = true ∧ k (acc ++ [y]) (gWipe vs Γ4))
    (hd : k (L.map f) Γ) : lcGo g tTrue te vs k (L.map h) [] Γ := by
  refine lc_fmT (fun a => some (f a)) hl (fun d acc k h1 h2 h3 => ?_) (by simpa using hd)
  simpa [tTrue] using hs d acc k h1 h2 (by simpa using h3)
theorem loop_invT {α : Type} {g : WG} {body : WS} {E : VEnds} (I : Nat → G → Prop) {L : List α} {h : α → D} {Γ : G} (h0 : I 0 Γ)
    (hs : ∀ (i : Nat) a Γ (k : G → Prop), L[i]? = some a → I i Γ → (∀ Γ', I (i + 1) Γ' → k Γ') → g (h a) Γ fun Γ2 => body { E with nx := k, ct := k, bk := E.nx } Γ2) (hd : ∀ Γ, I L.length Γ → E.nx Γ) : loopW g body E (L.map h) Γ := by
  refine loop_inv I h0 (fun i d Γ k e hI hk => ?_) (fun Γ hI => hd Γ (by simpa using hI))
  rw [List.getElem?_map] at e
  cases z : L[i]? with
  | none => rw [z] at e; cases e
  | some a =>
    rw [z] at e
    cases e
    exact hs i a Γ k z hI hk
theorem rep_flat {α : Type} (n : Nat) (x : α) : (List.replicate n [x]).flatten = List.replicate n x := by
  induction n with
  | zero => rfl
  | succ n ih => simp [List.replicate_succ, ih]
theorem rep_ints (n : Nat) (i : Int) : List.replicate n (D.int i) = (List.replicate n i).map D.int := by simp
theorem zp2_map {α β : Type} (f : α → D) (g : β → D) : ∀ (xs : List α) (ys : List β), zp2 (xs.map f) (ys.map g) = (xs.zip ys).map fun p => .tup [f p.1, g p.2]
  | [], _ => by simp [zp2]
  | _ :: _, [] => by simp [zp2]
  | x :: xs, y :: ys => by simp [zp2, zp2_map f g xs ys]
theorem zp3_map {α β γ : Type} (f : α → D) (g : β → D) (h : γ → D) : ∀ (xs : List α) (ys : List β) (zs : List γ), zp3 (xs.map f) (ys.map g) (zs.map h) = (xs.zip (ys.zip zs)).map fun p => .tup [f p.1, g p.2.1, h p.2.2]
  | [], _, _ => by simp [zp3]
  | _ :: _, [], _ => by simp [zp3]
  | _ :: _, _ :: _, [] => by simp [zp3]
  | x :: xs, y :: ys, z :: zs => by simp [zp3, zp3_map f g h xs ys zs]
theorem enD_map {α : Type} (f : α → D) : ∀ (i : Nat) (xs : List α), enD i (xs.map f) = (xs.zipIdx i).map fun p => .tup [.int (p.2 : Nat), f p.1]
  | _, [] => by simp [enD]
  | i, x :: xs => by simp [enD, List.zipIdx_cons, enD_map f (i + 1) xs]
theorem LN_eq : LN = 1000000 := rfl
theorem toPs_ints (xs : List Int) : toPs (xs.map D.int) = some (xs.map PyData.int) := by
  induction xs with
  | nil => rfl
  | cons x xs ih => simp [toPs, toP, ih]
theorem layAll_ints (xs : List Int) : PyData.canLayAll0 (xs.map PyData.int) = true := by
  induction xs with
  | nil => simp [PyData.canLayAll0]
  | cons x xs ih => simp [PyData.canLayAll0, PyData.canLay0, ih]
theorem depthAll_ints (xs : List Int) : PyData.depthAll (xs.map PyData.int) = 0 := by
  induction xs with
  | nil => rfl
  | cons x xs ih => simp [PyData.depthAll, PyData.depth, ih]
theorem okP_li (xs : List Int) : okP (.lst (xs.map D.int)) = true := by
  simp [okP, toP, toPs_ints, SeqAt.shaped, PyData.canLay0, layAll_ints, PyData.depth, depthAll_ints]
theorem okP_ti (xs : List Int) : okP (.tup (xs.map D.int)) = true := by
  simp [okP, toP, toPs_ints, SeqAt.shaped, PyData.canLay0, layAll_ints, PyData.depth, depthAll_ints]
theorem okP_lnil : okP (.lst []) = true := okP_li []
theorem okP_tnil : okP (.tup []) = true := okP_ti []
theorem eqP_linil (xs : List Int) : eqP (.lst (xs.map D.int)) (.lst []) = xs.isEmpty := by
  cases xs with
  | nil => simp [eqP, toP, toPs, PyData.eqv, PyData.eqvAll]
  | cons x xs => simp [eqP, toP, toPs, toPs_ints, PyData.eqv, PyData.eqvAll]
/-- a step, then the rest: P is what stands between -/
theorem seq_of {w ws : WS} {E : VEnds} {Γ : G} (P : G → Prop) (h1 : ∀ k : G → Prop, (∀ Δ, P Δ → k Δ) → w { E with nx := k } Γ) (h2 : ∀ Δ, P Δ → ws E Δ) : sCons w ws E Γ := h1 _ h2
theorem cutL_map {α β : Type} (f : α → β) (xs : List α) (lo hi : Option Int) : cutL (xs.map f) lo hi = (cutL xs lo hi).map f := by
  unfold cutL
  rw [List.length_map, List.map_take, List.map_drop]
end VL

-- VW
/-! VW: an own list that is read as a shared one and stays an own one: what is made of it holds no address. -/
namespace VL
open PySem PySem.Spec L2 PyProof.Rows
def flat : D → Bool
  | .tup _ => false
  | .lst _ => false
  | .fz _ => false
  | _ => true
/-- the own lists hold no addresses -/
def flatG : G → Bool
  | [] => true
  | .ac ds :: Γ => ds.all flat && flatG Γ
  | .io ds :: Γ => ds.all flat && flatG Γ
  | _ :: Γ => flatG Γ
theorem flatG_ac : ∀ {Γ : G} {i : Nat} {ds : List D}, flatG Γ = true → (Γ[i]? = some (.ac ds) ∨ Γ[i]? = some (.io ds)) → ds.all flat = true
  | [], i, ds, _, e => by simp at e
  | s :: Γ, 0, ds, h, e => by
    rcases e with e | e <;> (cases e; simp only [flatG, Bool.and_eq_true] at h; exact h.1)
  | s :: Γ, i + 1, ds, h, e => by
    have h2 : flatG Γ = true := by
      cases s <;> first | exact h | (simp only [flatG, Bool.and_eq_true] at h; exact h.2)
    exact flatG_ac h2 (by simpa using e)
theorem Rep.flat {K : PySem.W.Frag} {A B : Addr → Prop} {H H' : Hp} {d : D} {v : V} (h : flat d = true) (r : Rep K A H d v) : Rep K B H' d v := by
  cases d <;> first | exact r | exact absurd h Bool.false_ne_true
theorem Reps.flt {K : PySem.W.Frag} {A B : Addr → Prop} {H H' : Hp} : ∀ {ds : List D} {vs : List V}, ds.all VL.flat = true → Reps K A H ds vs → Reps K B H' ds vs
  | [], _, _, r => r
  | d :: ds, vs, h, r => by
    obtain ⟨v, us, rfl, r1, r2⟩ := r
    simp only [List.all_cons, Bool.and_eq_true] at h
    exact ⟨v, us, rfl, Rep.flat h.1 r1, Reps.flt h.2 r2⟩
section
variable {K : PySem.W.Frag} {C : Act} {AV AV2 : Addr → Prop} {Γ : G} {σ : L2.St} {H H' : Hp}
theorem acc_set {i : Nat} {ds : List D} {b : Addr} (z : Acc (Γ.set i (.sh (.lst ds))) σ b) : Acc Γ σ b := by
  obtain ⟨j, s, e1, q, r⟩ := z
  rcases getSet e1 with ⟨_, rfl, _⟩ | ⟨_, e2⟩
  · cases q
  · exact ⟨j, s, e2, q, r⟩
theorem Rel.restore (R : Rel K C AV Γ σ H) {i : Nat} {ds : List D} (e : Γ[i]? = some (.ac ds)) (R2 : Rel K C AV2 (Γ.set i (.sh (.lst ds))) σ H') (st : Step (Acc (Γ.set i (.sh (.lst ds))) σ) H H') (hAV : ∀ b, AV2 b → AV b ∨ H b = none)
    (hf : flatG (Γ.set i (.sh (.lst ds))) = true) : Rel K C AV2 Γ σ H' := by
  have sub : ∀ b, AvA AV2 Γ σ b → AvA AV Γ σ b ∨ H b = none := fun b z => by
    rcases z with z | z
    · exact (hAV b z).imp Or.inl id
    · exact .inl (.inr z)
  have inn : ∀ b, Acc (Γ.set i (.sh (.lst ds))) σ b → AvA AV Γ σ b ∨ H b = none := fun b z => .inl (.inr (acc_set z))
  obtain ⟨a, vs, e1, e2, r, q1, q2⟩ := R.ac i ds e
  have na : ¬ Acc (Γ.set i (.sh (.lst ds))) σ a := fun ⟨j, s, e3, q3, r3⟩ => by
    rcases getSet e3 with ⟨_, rfl, _⟩ | ⟨n, e4⟩
    · cases q3
    · exact n (R.inj i j _ _ a e rfl e4 q3 e1 r3)
  refine ⟨R2.avs, R2.avt, fun j d e3 => ?_, fun j es e3 => ?_, fun j es e3 => ?_, R.ios, R.inj, R2.frame, R2.there, R.len⟩
  · obtain ⟨v, e5, r5⟩ := R.sh j d e3
    exact ⟨v, e5, Rep.anti sub d v (Rep.step st inn d v (Rep.fresh d v r5))⟩
  · by_cases hij : i = j
    · subst hij
      rw [e] at e3
      cases e3
      refine ⟨a, vs, e1, st.keep a _ e2 na, Reps.anti sub ds vs (Reps.step st inn ds vs (Reps.fresh ds vs r)), q1, fun z => ?_⟩
      rcases hAV a z with z | z
      · exact q2 z
      · rw [z] at e2; cases e2
    · have e6 : (Γ.set i (.sh (.lst ds)))[j]? = some (.ac es) := by rw [List.getElem?_set_ne hij]; exact e3
      obtain ⟨b, us, f1, f2, f3, f4⟩ := R2.ac j es e6
      exact ⟨b, us, f1, f2, Reps.flt (flatG_ac hf (.inl e6)) f3, f4⟩
  · have hij : i ≠ j := fun z => by subst z; rw [e] at e3; cases e3
    have e6 : (Γ.set i (.sh (.lst ds)))[j]? = some (.io es) := by rw [List.getElem?_set_ne hij]; exact e3
    obtain ⟨b, us, f0, f1, f2, f3⟩ := R2.io j es e6
    exact ⟨b, us, f0, f1, f2, Reps.flt (flatG_ac hf (.inr e6)) f3⟩
end
/-- a flat value, or a new list of them -/
def flatR : D → Bool → Bool
  | .lst ds, true => ds.all flat
  | d, false => flat d
  | _, _ => false
def wBor (i : Nat) (w : WE) : WE := fun Γ Q => match gAt Γ i with
  | .ac ds => flatG (gSet Γ i (.sh (.lst ds))) = true ∧ w (gSet Γ i (.sh (.lst ds))) fun d fl Γ' => Γ' = gSet Γ i (.sh (.lst ds)) ∧ flatR d fl = true ∧ Q d fl Γ
  | _ => False
theorem ve_bor (i : Nat) {X : Cx} {C : Act} {e : Expr} {w : WE} (h : VE X C e w) : VE X C e (wBor i w) := by
  refine PE.imp h fun σ H Q ⟨Γ, AV, Qv, R, h, k⟩ => ?_
  have h : (match gAt Γ i with
  | .ac ds => flatG (gSet Γ i (.sh (.lst ds))) = true ∧ w (gSet Γ i (.sh (.lst ds))) fun d fl Γ' => Γ' = gSet Γ i (.sh (.lst ds)) ∧ flatR d fl = true ∧ Qv d fl Γ
  | _ => False) := h
  cases z : gAt Γ i with
  | un => rw [z] at h; exact h.elim
  | io ds => rw [z] at h; exact h.elim
  | sh d => rw [z] at h; exact h.elim
  | ac ds =>
    rw [z] at h
    obtain ⟨hf, h⟩ := h
    have ei := gAt_some z (fun q => nomatch q)
    obtain ⟨p, _⟩ := R.demote ei
    rw [gSet_eq] at h hf
    refine ⟨Γ.set i (.sh (.lst ds)), AV, _, p.rel, h, fun d fl Γ' v H' ⟨e1, e2, q⟩ pp => k _ _ _ _ _ q ?_⟩
    subst e1
    refine ⟨⟨fun b o eb n => pp.step.keep b o eb fun y => n (acc_set y), pp.step.there, pp.step.tups, pp.step.frzs⟩, shr_refl, ?_⟩
    cases fl with
    | false =>
      obtain ⟨R2, r⟩ := pp.res
      refine ⟨R.restore ei R2 pp.step (fun b y => .inl y) hf, ?_⟩
      have hd : flat d = true := by
        cases d <;> exact e2
      exact Rep.flat hd r
    | true =>
      obtain ⟨a, vs, ds2, rfl, rfl, n, R2, ha, r⟩ := pp.res
      exact ⟨a, vs, ds2, rfl, rfl, n, R.restore ei R2 pp.step (fun b y => y.imp id fun y => by rw [y]; exact n) hf, ha, Reps.flt e2 r⟩
end VL

-- VX
/-! VX: f(e), e a new list that f writes and that is dropped behind the call. -/
namespace VL
open PySem PySem.Spec L2 PyProof.Rows
section
variable {K : PySem.W.Frag} {C : Act} {AV : Addr → Prop} {Γ : G} {σ : L2.St} {H H' : Hp} {a : Addr}
/-- only what stands at a has changed, a list of nobody's -/
theorem Rel.drop (R : Rel K C (fun b => AV b ∨ b = a) Γ σ H) (hC : ∀ b, C.AV b → AV b) (st : Step (fun b => b = a) H H') (hio : ∀ (i : Nat), (i, a) ∉ C.io) (hs : C.Hs a = none) : Rel K C AV Γ σ H' := by
  have inn : ∀ b, b = a → AvA (fun b => AV b ∨ b = a) Γ σ b := fun b z => .inl (.inr z)
  have sub : ∀ b, AvA AV Γ σ b → AvA (fun b => AV b ∨ b = a) Γ σ b := fun b z => z.elim (fun z => .inl (.inl z)) .inr
  refine ⟨hC, fun b z => st.there b (R.avt b (.inl z)), fun j d e => ?_, fun j es e => ?_, fun j es e => ?_, R.ios, R.inj, fun b o e n => ?_, fun b e => st.there b (R.there b e), R.len⟩
  · obtain ⟨v, e1, r⟩ := R.sh j d e
    exact ⟨v, e1, Rep.anti sub d v (Rep.step st inn d v r)⟩
  · obtain ⟨b, us, f1, f2, f3, f4, f5⟩ := R.ac j es e
    exact ⟨b, us, f1, st.keep b _ f2 (fun z => f5 (.inr z)), Reps.anti sub es us (Reps.step st inn es us f3), f4, fun z => f5 (.inl z)⟩
  · obtain ⟨b, us, f0, f1, f2, f3⟩ := R.io j es e
    exact ⟨b, us, f0, f1, st.keep b _ f2 (fun z => hio j (z ▸ f0)), Reps.anti sub es us (Reps.step st inn es us f3)⟩
  · refine st.keep b o (R.frame b o e n) fun z => ?_
    rw [z, hs] at e
    cases e
end
def wCallT (fs : FS) (w : WE) : WE := fun Γ Q => w Γ fun d fl Γ1 => fl = true ∧ fs [d] fun r fl2 outs => fl2 = false ∧ flat r = true ∧ Q r false Γ1
section
variable {X : Cx} {C : Act} {e : Expr} {pos p : Pos} {w : WE} {x : Str} {sp : Sp} {fs : FS}
theorem lcallT {σ : L2.St} {H : Hp} {Q : VK} (h : lf X.K C (wCallT fs w) σ H Q) : lf X.K C w σ H fun v H1 => spOf X.K 1 [0] fs [v] H1 Q fun _ _ _ => False := by
  obtain ⟨Γ, AV, Qv, R, h, k⟩ := h
  refine ⟨Γ, AV, _, R, h, fun d fl Γ1 v H1 q p => ?_⟩
  obtain ⟨rfl, q⟩ := q
  obtain ⟨a, vs, ds, rfl, rfl, ha, R1, e1, r1⟩ := p.res
  refine ⟨[.lst ds], AvA (fun b => AV b ∨ b = a) Γ1 σ, _, rfl, ⟨rfl, fun b z => R1.avaT z, fun i d v hi e2 e3 => ?_, fun i hi => ?_, fun i j b hi hj _ _ => ?_⟩, q, fun r fl2 outs v H2 q2 p2 => ?_⟩
  · cases i with
    | zero => exact absurd (by simp) hi
    | succ i => simp at e2
  · have hi : i = 0 := by simpa using hi
    subst hi
    exact ⟨a, ds, vs, rfl, rfl, .inl (.inr rfl), e1, r1⟩
  · have hi : i = 0 := by simpa using hi
    have hj : j = 0 := by simpa using hj
    rw [hi, hj]
  · obtain ⟨rfl, hf, q2⟩ := q2
    have keep : ∀ b o, H1 b = some o → b ≠ a → H2 b = some o := fun b o eb n => p2.frame b o eb fun i hi z => by
      have hi : i = 0 := by simpa using hi
      subst hi
      simp at z
      exact n z.symm
    have st : Step (fun b => b = a) H1 H2 := ⟨fun b o eb n => keep b o eb n, p2.there, fun b xs eb => keep b _ eb (fun z => (by rw [z, e1] at eb; cases eb)), fun b o u eb => keep b _ eb (fun z => (by rw [z, e1] at eb; cases eb))⟩
    have hio : ∀ (i : Nat), (i, a) ∉ C.io := fun i hm => by
      obtain ⟨es, f1, f2⟩ := R.ios i a hm
      obtain ⟨b, us, g0, g1, g2, _⟩ := R.io i es f1
      rw [f2] at g1
      cases g1
      rw [ha] at g2
      cases g2
    have hs : C.Hs a = none := by
      cases z : C.Hs a with
      | none => rfl
      | some o => exact absurd ha (R.there a (by rw [z]; exact fun q => nomatch q))
    have R2 : Rel X.K C AV Γ1 σ H2 := R1.drop R.avs st hio hs
    refine k _ _ _ _ _ q2 ⟨?_, p.shr, R2, Rep.flat hf p2.val⟩
    exact p.step.trans st fun b nb z => absurd (z ▸ ha) nb
theorem ve_callT1 {k : Nat} {st : Stmt} {ps : List Str} (h : Ok X.prog X.w X.K X.mg X.base k x st ps [0] fs) (hr : Room k X.A) (ha : VE X C e w) (hn : ps.length = 1 := by rfl) (hg : Gl X x := by rfl) (hdb : (x == ("__debug__" : Str)) = false := by decide)
    (he : starEach [e] X.env = (false, eval e X.env) :: starEach [] X.env := by rfl) : VE X C (.Call (.Name x p) [e] [] pos) (wCallT fs w) := by
  obtain ⟨f, fd, hm, hk, hb, F⟩ := h
  rw [hn] at F
  refine PE.imp (pe_call (E := fun _ _ _ => False) F hr hg hm hk.kp hb .nil (pass0 (X := X)) (pa_cons ha pa_nil he) hdb he rfl) fun σ H Q h => lcallT h
theorem ve_callT1G {k : Nat} {st : Stmt} {ps : List Str} (gd : X.A.guards = some []) (h : OkG X.prog X.w X.K X.mg X.base k x st ps [0] fs) (hr : Room k X.A) (ha : VE X C e w) (hn : ps.length = 1 := by rfl) (hg : Gl X x := by rfl) (hdb : (x == ("__debug__" : Str)) = false := by decide)
    (he : starEach [e] X.env = (false, eval e X.env) :: starEach [] X.env := by rfl) : VE X C (.Call (.Name x p) [e] [] pos) (wCallT fs w) := by
  obtain ⟨f, fd, hm, hk, hb, F⟩ := h
  rw [hn] at F
  refine PE.imp (pe_callG (E := fun _ _ _ => False) F gd hr hg hm hk.kp hb (pa_cons ha pa_nil he) hdb he rfl) fun σ H Q h => lcallT h
end
end VL

-- GR
/-! GR: whole sums of powers of x, x^N = 1. -/
namespace GR
section sums
variable {α β : Type}
def lsum (L : List α) (f : α → Int) : Int := (L.map f).sum
theorem lsum_cons (a : α) (L : List α) (f : α → Int) : lsum (a :: L) f = f a + lsum L f := by simp [lsum]
theorem lsum_nil (f : α → Int) : lsum [] f = 0 := rfl
theorem lsum_congr {L : List α} {f g : α → Int} (h : ∀ a ∈ L, f a = g a) : lsum L f = lsum L g := by
  induction L with
  | nil => rfl
  | cons a L ih => rw [lsum_cons, lsum_cons, h a (by simp), ih fun b hb => h b (by simp [hb])]
theorem lsum_add (L : List α) (f g : α → Int) : lsum L (fun a => f a + g a) = lsum L f + lsum L g := by
  induction L with
  | nil => rfl
  | cons a L ih => rw [lsum_cons, lsum_cons, lsum_cons, ih]; omega
theorem lsum_mul (L : List α) (c : Int) (f : α → Int) : lsum L (fun a => c * f a) = c * lsum L f := by
  induction L with
  | nil => simp [lsum_nil]
  | cons a L ih => rw [lsum_cons, lsum_cons, ih, Int.mul_add]
theorem lsum_mulr (L : List α) (c : Int) (f : α → Int) : lsum L (fun a => f a * c) = lsum L f * c := by
  rw [Int.mul_comm, ← lsum_mul]
  exact lsum_congr fun a _ => Int.mul_comm _ _
theorem lsum_zero (L : List α) : lsum L (fun _ => 0) = 0 := by
  induction L with
  | nil => rfl
  | cons a L ih => rw [lsum_cons, ih]; rfl
theorem lsum_swap (L : List α) (M : List β) (f : α → β → Int) : lsum L (fun a => lsum M fun b => f a b) = lsum M fun b => lsum L fun a => f a b := by
  induction L with
  | nil => simp only [lsum_nil]; rw [lsum_zero]
  | cons a L ih =>
    rw [lsum_cons, ih, ← lsum_add]
    exact lsum_congr fun b _ => by rw [lsum_cons]
theorem lsum_pick [DecidableEq α] {L : List α} (nd : L.Nodup) {a : α} (h : a ∈ L) (f : α → Int) : lsum L (fun b => if b = a then f b else 0) = f a := by
  induction L with
  | nil => cases h
  | cons x L ih =>
    rw [List.nodup_cons] at nd
    rw [lsum_cons]
    by_cases e : x = a
    · subst e
      rw [if_pos rfl]
      have : lsum L (fun b => if b = x then f b else 0) = lsum L fun _ => 0 := lsum_congr fun b hb => if_neg (c := b = x) fun (z : b = x) => nd.1 (by rw [← z]; exact hb)
      rw [this, lsum_zero]
      omega
    · rw [if_neg e, ih nd.2 ((List.mem_cons.mp h).resolve_left fun z => e z.symm)]
      omega
end sums
variable {N : Nat}
/-- the sum over all places -/
def Sm (f : Fin N → Int) : Int := lsum (List.finRange N) f
theorem Sm_congr {f g : Fin N → Int} (h : ∀ i, f i = g i) : Sm f = Sm g := lsum_congr fun a _ => h a
theorem Sm_pick (a : Fin N) (f : Fin N → Int) : Sm (fun b => if b = a then f b else 0) = f a := lsum_pick (List.nodup_finRange N) (List.mem_finRange a) f
theorem Sm_bij (e e' : Fin N → Fin N) (h : ∀ i j, e i = j ↔ i = e' j) (f : Fin N → Int) : Sm (fun i => f (e i)) = Sm f := by
  have e1 : Sm (fun i => f (e i)) = Sm fun i => Sm fun j => if j = e i then f j else 0 := Sm_congr fun i => (Sm_pick (e i) f).symm
  rw [e1]
  unfold Sm
  rw [lsum_swap]
  refine lsum_congr fun j _ => ?_
  have e2 : (lsum (List.finRange N) fun i => if j = e i then f j else 0) = Sm fun i => if i = e' j then f j else 0 := Sm_congr fun i => by
    by_cases z : e i = j
    · rw [if_pos z.symm, if_pos ((h i j).mp z)]
    · rw [if_neg (fun w => z w.symm), if_neg (fun w => z ((h i j).mpr w))]
  rw [e2]
  exact Sm_pick (e' j) fun _ => f j
/-- a sum of powers of x -/
structure R (N : Nat) where
  c : Fin N → Int
theorem R.ext {f g : R N} (h : ∀ i, f.c i = g.c i) : f = g := by
  cases f; cases g
  congr
  funext i
  exact h i
section
variable [NeZero N]
instance : Add (R N) := ⟨fun f g => ⟨fun i => f.c i + g.c i⟩⟩
instance : Neg (R N) := ⟨fun f => ⟨fun i => -f.c i⟩⟩
instance : Sub (R N) := ⟨fun f g => ⟨fun i => f.c i - g.c i⟩⟩
instance : Mul (R N) := ⟨fun f g => ⟨fun k => Sm fun i => f.c i * g.c (k - i)⟩⟩
/-- a number times a power of x -/
def mo (v : Int) (a : Fin N) : R N := ⟨fun i => if i = a then v else 0⟩
instance : IntCast (R N) := ⟨fun v => mo v 0⟩
instance : NatCast (R N) := ⟨fun v => mo v 0⟩
instance (n : Nat) : OfNat (R N) n := ⟨mo n 0⟩
instance : SMul Nat (R N) := ⟨fun n f => ⟨fun i => n * f.c i⟩⟩
instance : SMul Int (R N) := ⟨fun n f => ⟨fun i => n * f.c i⟩⟩
theorem add_c (f g : R N) (i : Fin N) : (f + g).c i = f.c i + g.c i := rfl
theorem neg_c (f : R N) (i : Fin N) : (-f).c i = -f.c i := rfl
theorem sub_c (f g : R N) (i : Fin N) : (f - g).c i = f.c i - g.c i := rfl
theorem mul_c (f g : R N) (k : Fin N) : (f * g).c k = Sm fun i => f.c i * g.c (k - i) := rfl
theorem mo_c (v : Int) (a i : Fin N) : (mo v a).c i = if i = a then v else 0 := rfl
theorem smul_c (n : Nat) (f : R N) (i : Fin N) : (n • f).c i = n * f.c i := rfl
theorem zsmul_c (n : Int) (f : R N) (i : Fin N) : (n • f).c i = n * f.c i := rfl
theorem zero_c (i : Fin N) : (0 : R N).c i = 0 := by
  show (if i = 0 then ((0 : Nat) : Int) else 0) = 0
  split <;> rfl
theorem mul_comm' (f g : R N) : f * g = g * f := by
  apply R.ext
  intro k
  rw [mul_c, mul_c]
  rw [← Sm_bij (fun i => k - i) (fun i => k - i) (fun i j => by constructor <;> intro h <;> grind) fun i => g.c i * f.c (k - i)]
  refine Sm_congr fun i => ?_
  have : k - (k - i) = i := by grind
  rw [this, Int.mul_comm]
theorem mul_assoc' (f g h : R N) : f * g * h = f * (g * h) := by
  apply R.ext
  intro k
  rw [mul_c, mul_c]
  have e1 : (Sm fun j => (f * g).c j * h.c (k - j)) = Sm fun j => Sm fun i => f.c i * (g.c (j - i) * h.c (k - j)) := Sm_congr fun j => by
    rw [mul_c]
    unfold Sm
    rw [← lsum_mulr]
    exact lsum_congr fun i _ => Int.mul_assoc _ _ _
  rw [e1]
  unfold Sm
  rw [lsum_swap]
  refine lsum_congr fun i _ => ?_
  rw [lsum_mul, mul_c]
  congr 1
  have e2 := Sm_bij (fun j => j + i) (fun j => j - i) (fun a b => by constructor <;> intro h <;> grind) fun j => g.c (j - i) * h.c (k - j)
  refine e2.symm.trans ?_
  refine Sm_congr fun j => ?_
  have h1 : j + i - i = j := by grind
  have h2 : k - (j + i) = k - i - j := by grind
  rw [h1, h2]
theorem left_distrib' (f g h : R N) : f * (g + h) = f * g + f * h := by
  apply R.ext
  intro k
  rw [add_c, mul_c, mul_c, mul_c]
  unfold Sm
  rw [← lsum_add]
  exact lsum_congr fun i _ => by rw [add_c, Int.mul_add]
theorem mo_mul (v : Int) (a : Fin N) (f : R N) (k : Fin N) : (mo v a * f).c k = v * f.c (k - a) := by
  rw [mul_c]
  have : (Sm fun i => (mo v a).c i * f.c (k - i)) = Sm fun i => if i = a then v * f.c (k - i) else 0 := Sm_congr fun i => by
    rw [mo_c]
    split
    · rfl
    · rw [Int.zero_mul]
  rw [this, Sm_pick]
theorem mo_mo (v w : Int) (a b : Fin N) : mo v a * mo w b = mo (v * w) (a + b) := by
  apply R.ext
  intro k
  rw [mo_mul, mo_c, mo_c]
  by_cases h : k = a + b
  · rw [if_pos h, if_pos (by grind)]
  · rw [if_neg h, if_neg (by grind), Int.mul_zero]
theorem one_mul' (f : R N) : 1 * f = f := by
  apply R.ext
  intro k
  show (mo (1 : Nat) 0 * f).c k = _
  rw [mo_mul]
  have : k - 0 = k := by grind
  rw [this]
  simp
theorem natCast_c (n : Nat) (i : Fin N) : ((n : Nat) : R N).c i = if i = 0 then (n : Int) else 0 := rfl
theorem ofNat_c (n : Nat) (i : Fin N) : (OfNat.ofNat n : R N).c i = if i = 0 then (n : Int) else 0 := rfl
def pw (f : R N) : Nat → R N
  | 0 => 1
  | n + 1 => pw f n * f
instance : HPow (R N) Nat (R N) := ⟨pw⟩
instance : Lean.Grind.CommRing (R N) where
  add_zero f := R.ext fun i => by rw [add_c, zero_c]; omega
  add_comm f g := R.ext fun i => by rw [add_c, add_c]; omega
  add_assoc f g h := R.ext fun i => by rw [add_c, add_c, add_c, add_c]; omega
  mul_assoc := mul_assoc'
  mul_one f := by rw [mul_comm', one_mul']
  one_mul := one_mul'
  left_distrib := left_distrib'
  right_distrib f g h := by rw [mul_comm', left_distrib', mul_comm' h f, mul_comm' h g]
  zero_mul f := R.ext fun i => by
    show (mo (0 : Nat) 0 * f).c i = _
    rw [mo_mul, zero_c]; simp
  mul_zero f := R.ext fun i => by
    rw [mul_comm']
    show (mo (0 : Nat) 0 * f).c i = _
    rw [mo_mul, zero_c]; simp
  pow_zero _ := rfl
  pow_succ _ _ := rfl
  ofNat_succ n := R.ext fun i => by
    rw [add_c, ofNat_c, ofNat_c, ofNat_c]
    split <;> simp
  ofNat_eq_natCast n := rfl
  nsmul_eq_natCast_mul n f := R.ext fun i => by
    show (n • f).c i = (mo (n : Nat) 0 * f).c i
    rw [mo_mul, smul_c]
    have : i - 0 = i := by grind
    rw [this]
  neg_add_cancel f := R.ext fun i => by rw [add_c, neg_c, zero_c]; omega
  sub_eq_add_neg f g := R.ext fun i => by rw [sub_c, add_c, neg_c]; omega
  neg_zsmul n f := R.ext fun i => by rw [zsmul_c, neg_c, zsmul_c, Int.neg_mul]
  zsmul_natCast_eq_nsmul n f := R.ext fun i => by rw [zsmul_c, smul_c]
  intCast_ofNat n := rfl
  intCast_neg n := R.ext fun i => by
    show (mo (-n) 0).c i = (-(mo n 0)).c i
    rw [mo_c, neg_c, mo_c]
    split <;> simp
  mul_comm := mul_comm'
example (a b c : R N) : (a + b) * (a - b) * c = (a * a - b * b) * c := by grind
end
end GR

-- CY
/-! CY: remainders by a polynomial with the leading figure 1, and what they have to do with powers of x, x^N = 1. -/
namespace GR
/-! ### the long division -/
def subAt (start : Nat) (lead : Int) (o f : List Int) : List Int := o.zipIdx.foldl (fun f p => f.set (start + p.2) (f.getD (start + p.2) 0 - lead * p.1)) f
def ppStep (o : List Int) (start : Nat) (f : List Int) : List Int := if f.getD (start + o.length - 1) 0 = 0 then f else subAt start (f.getD (start + o.length - 1) 0) o f
def remP (l o : List Int) : List Int := ((List.range (l.length - o.length + 1)).foldl (fun f k => ppStep o (l.length - o.length - k) f) l).take (o.length - 1)
theorem foldl_len {α : Type} (g : List Int → α → List Int) (h : ∀ f a, (g f a).length = f.length) : ∀ (xs : List α) (f : List Int), (xs.foldl g f).length = f.length
  | [], f => rfl
  | x :: xs, f => by rw [List.foldl_cons, foldl_len g h xs, h]
theorem subAt_len (st : Nat) (ld : Int) (o f : List Int) : (subAt st ld o f).length = f.length := by
  unfold subAt
  exact foldl_len _ (fun f a => by simp) _ _
theorem ppStep_len (o : List Int) (st : Nat) (f : List Int) : (ppStep o st f).length = f.length := by
  unfold ppStep
  split
  · rfl
  · exact subAt_len _ _ _ _
theorem getD_set (f : List Int) (j i : Nat) (v : Int) (hj : j < f.length) : (f.set j v).getD i 0 = if i = j then v else f.getD i 0 := by
  rw [List.getD_eq_getElem?_getD, List.getElem?_set]
  by_cases h : j = i
  · subst h; simp [hj]
  · rw [if_neg h, if_neg (fun e => h e.symm), List.getD_eq_getElem?_getD]
theorem subAt_get (st : Nat) (ld : Int) (i : Nat) : ∀ (o : List Int) (k : Nat) (f : List Int), st + k + o.length ≤ f.length →
    ((o.zipIdx k).foldl (fun f p => f.set (st + p.2) (f.getD (st + p.2) 0 - ld * p.1)) f).getD i 0 = f.getD i 0 - if st + k ≤ i ∧ i < st + k + o.length then ld * o.getD (i - (st + k)) 0 else 0
  | [], k, f, h => by
    rw [if_neg (by simp only [List.length_nil]; omega)]
    simp
  | x :: o, k, f, h => by
    rw [List.zipIdx_cons, List.foldl_cons]
    simp only [List.length_cons] at h ⊢
    have ih := subAt_get st ld i o (k + 1) (f.set (st + k) (f.getD (st + k) 0 - ld * x)) (by simp; omega)
    rw [ih, getD_set _ _ _ _ (by omega)]
    by_cases h1 : i = st + k
    · subst h1
      rw [if_pos rfl, if_neg (by omega), if_pos (by omega)]
      simp
    · rw [if_neg h1]
      by_cases h2 : st + k ≤ i ∧ i < st + k + (o.length + 1)
      · rw [if_pos h2, if_pos (by omega)]
        have e : i - (st + k) = (i - (st + (k + 1))) + 1 := by omega
        rw [e, List.getD_cons_succ]
      · rw [if_neg h2, if_neg (by omega)]
/-- one step, place by place -/
theorem ppStep_get (o : List Int) (st i : Nat) (f : List Int) (h : st + o.length ≤ f.length) : (ppStep o st f).getD i 0 = f.getD i 0 - if st ≤ i then f.getD (st + o.length - 1) 0 * o.getD (i - st) 0 else 0 := by
  have key : (subAt st (f.getD (st + o.length - 1) 0) o f).getD i 0 = f.getD i 0 - if st ≤ i then f.getD (st + o.length - 1) 0 * o.getD (i - st) 0 else 0 := by
    unfold subAt
    rw [subAt_get st _ i o 0 f (by omega)]
    simp only [Nat.add_zero]
    by_cases h1 : st ≤ i
    · by_cases h2 : i < st + o.length
      · rw [if_pos ⟨h1, h2⟩, if_pos h1]
      · rw [if_neg (fun z => h2 z.2), if_pos h1, List.getD_eq_getElem?_getD (l := o), List.getElem?_eq_none (l := o) (by omega)]
        simp
    · rw [if_neg (fun z => h1 z.1), if_neg h1]
  unfold ppStep
  split
  · rename_i h0
    rw [h0]; simp
  · exact key
/-! ### x as a map on the remainders -/
/-- the remainder of x times a remainder; d: how many places -/
def shf (o : List Int) (v : Nat → Int) : Nat → Int := fun j => (if j = 0 then 0 else v (j - 1)) - v (o.length - 2) * o.getD j 0
def hf (o : List Int) : List Int → Nat → Int
  | [], _ => 0
  | a :: l, j => (if j = 0 then a else 0) + shf o (hf o l) j
theorem shf_add (o : List Int) (v w : Nat → Int) (j : Nat) : shf o (fun i => v i + w i) j = shf o v j + shf o w j := by
  unfold shf
  dsimp only
  rw [Int.add_mul]
  split <;> omega
theorem shf_mul (o : List Int) (c : Int) (v : Nat → Int) (j : Nat) : shf o (fun i => c * v i) j = c * shf o v j := by
  unfold shf
  rw [Int.mul_sub, Int.mul_assoc]
  split <;> simp
theorem shf_zero (o : List Int) (j : Nat) : shf o (fun _ => 0) j = 0 := by
  unfold shf
  split <;> simp
theorem hf_cons (o : List Int) (a : Int) (l : List Int) (j : Nat) : hf o (a :: l) j = (if j = 0 then a else 0) + shf o (hf o l) j := rfl
theorem hf_congr (o : List Int) : ∀ (l m : List Int), (∀ i, l.getD i 0 = m.getD i 0) → ∀ j, hf o l j = hf o m j
  | [], [], _, _ => rfl
  | [], b :: m, h, j => by
    have h0 := h 0
    have ih := hf_congr o [] m fun i => by simpa using h (i + 1)
    rw [hf_cons]
    have e : hf o m = fun _ => 0 := funext fun i => (ih i).symm
    rw [e, shf_zero]
    simp at h0
    rw [← h0]
    simp [hf]
  | a :: l, [], h, j => by
    have h0 := h 0
    have ih := hf_congr o l [] fun i => by simpa using h (i + 1)
    rw [hf_cons]
    have e : hf o l = fun _ => 0 := funext fun i => ih i
    rw [e, shf_zero]
    simp at h0
    rw [h0]
    simp [hf]
  | a :: l, b :: m, h, j => by
    have h0 := h 0
    have ih := hf_congr o l m fun i => by simpa using h (i + 1)
    rw [hf_cons, hf_cons, show hf o l = hf o m from funext ih]
    simp at h0
    rw [h0]
/-- l less c times m -/
theorem hf_less (o : List Int) (c : Int) : ∀ (l m k : List Int), (∀ i, k.getD i 0 = l.getD i 0 - c * m.getD i 0) → ∀ j, hf o k j = hf o l j - c * hf o m j := by
  have key : ∀ (n : Nat) (l m k : List Int), l.length + m.length + k.length ≤ n → (∀ i, k.getD i 0 = l.getD i 0 - c * m.getD i 0) → ∀ j, hf o k j = hf o l j - c * hf o m j := by
    intro n
    induction n with
    | zero =>
      intro l m k h _ j
      cases l <;> cases m <;> cases k <;> simp at h
      simp [hf]
    | succ n ih =>
      intro l m k hn h j
      by_cases hz : l.length + m.length + k.length = 0
      · cases l <;> cases m <;> cases k <;> simp at hz
        simp [hf]
      have e1 : ∀ x : List Int, ∀ i, hf o x i = (if i = 0 then x.getD 0 0 else 0) + shf o (hf o x.tail) i := by
        intro x i
        cases x with
        | nil =>
          show (0 : Int) = _ + shf o (hf o []) i
          have : hf o [] = fun _ => 0 := rfl
          rw [this, shf_zero]
          simp
        | cons a x => rw [hf_cons]; simp
      have t1 : ∀ (x : List Int) (i : Nat), x.tail.getD i 0 = x.getD (i + 1) 0 := by
        intro x i
        cases x <;> simp
      have it := ih l.tail m.tail k.tail (by simp only [List.length_tail]; omega) (fun i => by rw [t1, t1, t1]; exact h (i + 1))
      rw [e1 k, e1 l, e1 m]
      have e2 : hf o k.tail = fun i => hf o l.tail i + -c * hf o m.tail i := funext fun i => by rw [it i, Int.neg_mul]; omega
      rw [e2, shf_add, shf_mul, h 0, Int.mul_add, Int.neg_mul]
      split <;> simp <;> omega
  exact fun l m k h j => key _ l m k (Nat.le_refl _) h j
theorem hf_short (o : List Int) : ∀ (l : List Int), l.length ≤ o.length - 1 → 1 ≤ o.length - 1 → ∀ j, hf o l j = l.getD j 0
  | [], _, _, j => by simp [hf]
  | a :: l, h, h1, j => by
    have ih := hf_short o l (by simp at h; omega) h1
    rw [hf_cons]
    unfold shf
    rw [ih, ih]
    have : l.getD (o.length - 2) 0 = 0 := by
      rw [List.getD_eq_getElem?_getD, List.getElem?_eq_none (by simp at h; omega)]
      rfl
    rw [this]
    cases j <;> simp
/-- a polynomial with the leading figure 1 -/
structure Mon (o : List Int) : Prop where
  two : 2 ≤ o.length
  lead : o.getD (o.length - 1) 0 = 1
theorem hf_self {o : List Int} (h : Mon o) (j : Nat) : hf o o j = 0 := by
  obtain ⟨h2, h1⟩ := h
  cases o with
  | nil => simp at h2
  | cons a t =>
    have hs := hf_short (a :: t) t (by simp) (by simp at h2 ⊢; omega)
    rw [hf_cons]
    unfold shf
    rw [hs, hs]
    have e : t.getD ((a :: t).length - 2) 0 = 1 := by
      have : (a :: t).length - 1 = ((a :: t).length - 2) + 1 := by simp at h2 ⊢; omega
      rw [this, List.getD_cons_succ] at h1
      exact h1
    rw [e]
    cases j <;> simp <;> omega
theorem hf_zeros {o m : List Int} (h : ∀ j, hf o m j = 0) : ∀ (k j : Nat), hf o (List.replicate k 0 ++ m) j = 0
  | 0, j => h j
  | k + 1, j => by
    rw [List.replicate_succ, List.cons_append, hf_cons, show hf o (List.replicate k 0 ++ m) = fun _ => 0 from funext (hf_zeros h k), shf_zero]
    simp
theorem getD_zeros (m : List Int) (k i : Nat) : (List.replicate k 0 ++ m).getD i 0 = if k ≤ i then m.getD (i - k) 0 else 0 := by
  by_cases h : k ≤ i
  · rw [if_pos h, List.getD_eq_getElem?_getD, List.getElem?_append_right (by simpa using h), List.length_replicate, List.getD_eq_getElem?_getD]
  · rw [if_neg h, List.getD_eq_getElem?_getD, List.getElem?_append_left (by simp; omega), List.getElem?_replicate, if_pos (by omega)]
    rfl
theorem ppStep_hf {o : List Int} (h : Mon o) {st : Nat} {f : List Int} (hl : st + o.length ≤ f.length) (j : Nat) : hf o (ppStep o st f) j = hf o f j := by
  have e := hf_less o (f.getD (st + o.length - 1) 0) f (List.replicate st 0 ++ o) (ppStep o st f) (fun i => by
    rw [ppStep_get o st i f hl, getD_zeros]
    split
    · rfl
    · simp) j
  rw [e, hf_zeros (hf_self h), Int.mul_zero]
  omega
/-- behind the steps there is nought from the size of o on -/
theorem steps_top {o : List Int} (h : Mon o) (n : Nat) (f : List Int) (hl : f.length = n + o.length) : ∀ m, m ≤ n + 1 →
    (∀ j, hf o ((List.range m).foldl (fun f k => ppStep o (n - k) f) f) j = hf o f j) ∧ ∀ i, n + o.length - m ≤ i → ((List.range m).foldl (fun f k => ppStep o (n - k) f) f).getD i 0 = 0
  | 0, _ => ⟨fun j => rfl, fun i hi => by
      rw [List.range_zero, List.foldl_nil, List.getD_eq_getElem?_getD, List.getElem?_eq_none (by omega)]
      rfl⟩
  | m + 1, hm => by
    obtain ⟨h1, h2⟩ := steps_top h n f hl m (by omega)
    rw [List.range_succ, List.foldl_append, List.foldl_cons, List.foldl_nil]
    have hlen : ((List.range m).foldl (fun f k => ppStep o (n - k) f) f).length = n + o.length := by
      rw [foldl_len _ (fun f k => ppStep_len _ _ _), hl]
    generalize (List.range m).foldl (fun f k => ppStep o (n - k) f) f = g at *
    have h3 := h.two
    refine ⟨fun j => (ppStep_hf h (by omega) j).trans (h1 j), fun i hi => ?_⟩
    rw [ppStep_get o _ i g (by omega), if_pos (by omega)]
    by_cases he : i = n + o.length - (m + 1)
    · subst he
      have e1 : n - m + o.length - 1 = n + o.length - (m + 1) := by omega
      have e2 : n + o.length - (m + 1) - (n - m) = o.length - 1 := by omega
      rw [e1, e2, h.lead]
      omega
    · have e2 : o.getD (i - (n - m)) 0 = 0 := by
        rw [List.getD_eq_getElem?_getD, List.getElem?_eq_none (by omega)]
        rfl
      rw [h2 i (by omega), e2]
      simp
theorem remP_len {l o : List Int} (h : o.length ≤ l.length) : (remP l o).length = o.length - 1 := by
  unfold remP
  rw [List.length_take, foldl_len _ (fun f k => ppStep_len _ _ _)]
  omega
/-- THE LONG DIVISION: what is left is what x as a map tells -/
theorem remP_hf {l o : List Int} (h : Mon o) (hl : o.length ≤ l.length) (j : Nat) : (remP l o).getD j 0 = hf o l j := by
  obtain ⟨h1, h2⟩ := steps_top h (l.length - o.length) l (by omega) (l.length - o.length + 1) (Nat.le_refl _)
  have h3 := h.two
  rw [← h1 j]
  have e : hf o ((List.range (l.length - o.length + 1)).foldl (fun f k => ppStep o (l.length - o.length - k) f) l) j = hf o (remP l o) j := by
    refine hf_congr o _ _ (fun i => ?_) j
    unfold remP
    generalize (List.range (l.length - o.length + 1)).foldl (fun f k => ppStep o (l.length - o.length - k) f) l = g at *
    have e2 : (g.take (o.length - 1)).getD i 0 = if i < o.length - 1 then g.getD i 0 else 0 := by
      rw [List.getD_eq_getElem?_getD, List.getElem?_take]
      split
      · rw [List.getD_eq_getElem?_getD]
      · rfl
    rw [e2]
    split
    · rfl
    · rw [h2 i (by omega)]
  rw [e, hf_short o _ (by rw [remP_len hl]; omega) (by omega)]
theorem remP_nought {l o : List Int} (h : Mon o) (hl : o.length ≤ l.length) : ((remP l o).all fun x => decide (x = 0)) = true ↔ ∀ j, hf o l j = 0 := by
  rw [List.all_eq_true]
  constructor
  · intro q j
    rw [← remP_hf h hl]
    by_cases hj : j < (remP l o).length
    · have := q _ (List.getElem_mem hj)
      rw [List.getD_eq_getElem?_getD, List.getElem?_eq_getElem hj]
      simpa using this
    · rw [List.getD_eq_getElem?_getD, List.getElem?_eq_none (by omega)]
      rfl
  · intro q x hx
    obtain ⟨i, hi, rfl⟩ := List.getElem_of_mem hx
    have := q i
    rw [← remP_hf h hl, List.getD_eq_getElem?_getD, List.getElem?_eq_getElem hi] at this
    simpa using this
/-! ### the same, to be reckoned -/
def shl (o v : List Int) : List Int := List.zipWith (fun a b => a - v.getLastD 0 * b) (0 :: v.dropLast) o
def addHead (a : Int) : List Int → List Int
  | [] => []
  | b :: v => (a + b) :: v
/-- o: without its leading figure -/
def hor (o : List Int) : List Int → List Int
  | [] => List.replicate o.length 0
  | a :: l => addHead a (shl o (hor o l))
theorem shl_len (o v : List Int) (h : v.length = o.length) (h1 : 1 ≤ o.length) : (shl o v).length = o.length := by
  unfold shl
  simp
  omega
theorem hor_len (o : List Int) (h1 : 1 ≤ o.length) : ∀ l, (hor o l).length = o.length
  | [] => by simp [hor]
  | a :: l => by
    have ih := shl_len o _ (hor_len o h1 l) h1
    unfold hor
    generalize shl o (hor o l) = w at *
    cases w with
    | nil => simp at ih; omega
    | cons b w => simpa [addHead] using ih
theorem hor_hf {o : List Int} (h : Mon o) : ∀ (l : List Int) (j : Nat), j < o.length - 1 → (hor o.dropLast l).getD j 0 = hf o l j
  | [], j, hj => by
    unfold hor hf
    rw [List.getD_eq_getElem?_getD, List.getElem?_replicate]
    split <;> rfl
  | a :: l, j, hj => by
    have h2 := h.two
    have ih := hor_hf h l
    have hl := hor_len o.dropLast (by simp; omega) l
    have hl2 := shl_len _ _ hl (by simp; omega)
    rw [List.length_dropLast] at hl hl2
    rw [hf_cons]
    unfold hor
    have e : (addHead a (shl o.dropLast (hor o.dropLast l))).getD j 0 = (if j = 0 then a else 0) + (shl o.dropLast (hor o.dropLast l)).getD j 0 := by
      generalize shl o.dropLast (hor o.dropLast l) = w at *
      cases w with
      | nil => simp at hl2; omega
      | cons b w => cases j <;> simp [addHead]
    rw [e]
    congr 1
    unfold shl shf
    rw [← ih (o.length - 2) (by omega)]
    generalize hor o.dropLast l = v at *
    have e1 : v.getLastD 0 = v.getD (o.length - 2) 0 := by
      rw [List.getLastD_eq_getLast?, List.getLast?_eq_getElem?, List.getD_eq_getElem?_getD]
      have : v.length - 1 = o.length - 2 := by omega
      rw [this]
    rw [e1]
    have e2 : (0 :: v.dropLast)[j]? = some (if j = 0 then 0 else hf o l (j - 1)) := by
      cases j with
      | zero => simp
      | succ j =>
        rw [List.getElem?_cons_succ, List.getElem?_dropLast, if_pos (by omega), if_neg (by omega)]
        rw [Nat.add_sub_cancel, ← ih j (by omega), List.getD_eq_getElem?_getD, List.getElem?_eq_getElem (by omega)]
        rfl
    rw [List.getD_eq_getElem?_getD, List.getElem?_zipWith, e2, List.getElem?_dropLast, if_pos hj, List.getElem?_eq_getElem (by omega)]
    have e3 : o.getD j 0 = o[j] := by
      rw [List.getD_eq_getElem?_getD, List.getElem?_eq_getElem (by omega)]
      rfl
    rw [e3]
    rfl
end GR

-- CZ
/-! CZ: a row is nought at a root of one of the order N where its products with the powers of x less one are nought. -/
namespace GR
variable {N : Nat} [NeZero N]
/-! ### the remainders of powers of x -/
def wv (o : List Int) (k : Nat) (j : Nat) : Int := hf o (List.replicate k 0 ++ [1]) j
theorem wv_zero (o : List Int) (j : Nat) : wv o 0 j = if j = 0 then 1 else 0 := by
  show (if j = 0 then (1 : Int) else 0) + shf o (fun _ => 0) j = _
  rw [shf_zero]; omega
theorem wv_succ (o : List Int) (k j : Nat) : wv o (k + 1) j = shf o (wv o k) j := by
  unfold wv
  rw [List.replicate_succ, List.cons_append, hf_cons]
  show (if j = 0 then (0 : Int) else 0) + shf o (hf o (List.replicate k 0 ++ [1])) j = shf o (hf o (List.replicate k 0 ++ [1])) j
  split <;> omega
theorem shf_lsum {α : Type} (o : List Int) (L : List α) (f : α → Nat → Int) (j : Nat) : shf o (fun j => lsum L fun i => f i j) j = lsum L fun i => shf o (f i) j := by
  induction L with
  | nil => simp only [lsum_nil]; exact shf_zero o j
  | cons a L ih =>
    have e : (fun j => lsum (a :: L) fun i => f i j) = fun j => f a j + lsum L fun i => f i j := funext fun j => by rw [lsum_cons]
    rw [e, shf_add, ih, lsum_cons]
def Ev (o : List Int) (g : R N) (j : Nat) : Int := Sm fun i => g.c i * wv o i.val j
def Xp (t : Nat) : R N := mo 1 (Fin.ofNat N t)
theorem Ev_add (o : List Int) (f g : R N) (j : Nat) : Ev o (f + g) j = Ev o f j + Ev o g j := by
  unfold Ev Sm
  rw [← lsum_add]
  exact lsum_congr fun i _ => by rw [add_c, Int.add_mul]
theorem Ev_mo (o : List Int) (v : Int) (j : Nat) : Ev o (mo v (0 : Fin N)) j = if j = 0 then v else 0 := by
  unfold Ev
  have e : (Sm fun i : Fin N => (mo v 0).c i * wv o i.val j) = Sm fun i : Fin N => if i = 0 then v * wv o i.val j else 0 := Sm_congr fun i => by
    rw [mo_c]
    split
    · rfl
    · rw [Int.zero_mul]
  rw [e, Sm_pick]
  show v * wv o ((0 : Fin N) : Nat) j = _
  have : ((0 : Fin N) : Nat) = 0 := rfl
  rw [this, wv_zero]
  split <;> simp
/-- x goes round -/
def Wrap (N : Nat) (o : List Int) : Prop := ∀ j, wv o N j = wv o 0 j
theorem fin_succ (i : Fin N) : (i + Fin.ofNat N 1).val = if i.val + 1 < N then i.val + 1 else 0 := by
  have h := i.isLt
  rw [Fin.val_add]
  show (i.val + 1 % N) % N = _
  by_cases h1 : N = 1
  · subst h1; simp
  · have : 1 % N = 1 := Nat.mod_eq_of_lt (by omega)
    rw [this]
    split
    · exact Nat.mod_eq_of_lt (by assumption)
    · have : i.val + 1 = N := by omega
      rw [this]; exact Nat.mod_self N
theorem Ev_X {o : List Int} (h : Wrap N o) (g : R N) (j : Nat) : Ev o (Xp 1 * g) j = shf o (Ev o g) j := by
  have e1 : shf o (Ev o g) j = Sm fun i => g.c i * wv o (i.val + 1) j := by
    have : Ev o g = fun j => lsum (List.finRange N) fun i => g.c i * wv o i.val j := rfl
    rw [this, shf_lsum]
    refine lsum_congr fun i _ => ?_
    rw [shf_mul, ← wv_succ]
  rw [e1]
  unfold Ev
  refine (Sm_bij (fun i : Fin N => i + Fin.ofNat N 1) (fun i => i - Fin.ofNat N 1) (fun a b => by constructor <;> intro h <;> grind) fun i => (Xp 1 * g).c i * wv o i.val j).symm.trans ?_
  refine Sm_congr fun i => ?_
  have e2 : (Xp 1 * g).c (i + Fin.ofNat N 1) = g.c i := by
    unfold Xp
    rw [mo_mul]
    have : i + Fin.ofNat N 1 - Fin.ofNat N 1 = i := by grind
    rw [this, Int.one_mul]
  rw [e2, fin_succ]
  split
  · rfl
  · have : i.val + 1 = N := by have := i.isLt; omega
    rw [this, h j]
def Nul (o : List Int) (g : R N) : Prop := ∀ j, Ev o g j = 0
theorem Nul.add {o : List Int} {f g : R N} (hf : Nul o f) (hg : Nul o g) : Nul o (f + g) := fun j => by rw [Ev_add, hf j, hg j]; rfl
theorem Nul.zero (o : List Int) : Nul o (0 : R N) := fun j => by
  unfold Ev
  have : (Sm fun i : Fin N => (0 : R N).c i * wv o i.val j) = Sm fun _ : Fin N => 0 := Sm_congr fun i => by rw [zero_c, Int.zero_mul]
  rw [this]
  exact lsum_zero _
theorem Ev_mul0 (o : List Int) (v : Int) (g : R N) (j : Nat) : Ev o (mo v 0 * g) j = v * Ev o g j := by
  unfold Ev Sm
  rw [← lsum_mul]
  refine lsum_congr fun i _ => ?_
  have : i - 0 = i := by grind
  rw [mo_mul, this, Int.mul_assoc]
theorem Xp_add (s t : Nat) : (Xp s : R N) * Xp t = Xp (s + t) := by
  unfold Xp
  rw [mo_mo, Int.one_mul]
  congr 1
  apply Fin.ext
  rw [Fin.val_add]
  show (s % N + t % N) % N = (s + t) % N
  rw [← Nat.add_mod]
theorem Xp_zero : (Xp 0 : R N) = 1 := rfl
theorem Nul.x {o : List Int} (h : Wrap N o) {g : R N} (hg : Nul o g) : Nul o (Xp 1 * g) := fun j => by
  rw [Ev_X h, show Ev o g = fun _ => 0 from funext hg, shf_zero]
theorem Nul.xp {o : List Int} (h : Wrap N o) {g : R N} (hg : Nul o g) : ∀ t, Nul o (Xp t * g)
  | 0 => by rw [Xp_zero]; have : (1 : R N) * g = g := by grind
            rw [this]; exact hg
  | t + 1 => by
    rw [Nat.add_comm, ← Xp_add]
    have : (Xp 1 : R N) * Xp t * g = Xp 1 * (Xp t * g) := by grind
    rw [this]
    exact (Nul.xp h hg t).x h
theorem Nul.mul {o : List Int} (h : Wrap N o) {g : R N} (hg : Nul o g) (f : R N) : Nul o (f * g) := fun j => by
  have e : Ev o (f * g) j = Sm fun i => f.c i * Ev o (Xp i.val * g) j := by
    unfold Ev Sm
    have e1 : (lsum (List.finRange N) fun k => (f * g).c k * wv o k.val j) = lsum (List.finRange N) fun k => lsum (List.finRange N) fun i => f.c i * ((Xp i.val * g).c k * wv o k.val j) := lsum_congr fun k _ => by
      rw [mul_c]
      unfold Sm
      rw [← lsum_mulr]
      refine lsum_congr fun i _ => ?_
      unfold Xp
      rw [mo_mul, Int.one_mul, Int.mul_assoc]
      have : Fin.ofNat N i.val = i := by apply Fin.ext; exact Nat.mod_eq_of_lt i.isLt
      rw [this]
    rw [e1, lsum_swap]
    exact lsum_congr fun i _ => lsum_mul _ _ _
  rw [e]
  have : (Sm fun i => f.c i * Ev o (Xp i.val * g) j) = Sm fun _ : Fin N => 0 := Sm_congr fun i => by rw [hg.xp h i.val j, Int.mul_zero]
  rw [this]
  exact lsum_zero _
theorem Nul.div {o : List Int} {v : Int} (hv : v ≠ 0) {g : R N} (hg : Nul o (mo v 0 * g)) : Nul o g := fun j => by
  have := hg j
  rw [Ev_mul0] at this
  rcases Int.mul_eq_zero.mp this with z | z
  · exact absurd z hv
  · exact z
/-! ### lists as sums of powers -/
def ofL : List Int → R N
  | [] => 0
  | a :: l => mo a 0 + Xp 1 * ofL l
theorem ofL_Ev {o : List Int} (h : Wrap N o) : ∀ (l : List Int) (j : Nat), Ev o (ofL l : R N) j = hf o l j
  | [], j => Nul.zero o j
  | a :: l, j => by
    unfold ofL
    rw [Ev_add, Ev_mo, Ev_X h, show Ev o (ofL l : R N) = hf o l from funext (ofL_Ev h l), hf_cons]
theorem ofL_less (c : Int) : ∀ (l m k : List Int), (∀ i, k.getD i 0 = l.getD i 0 - c * m.getD i 0) → (ofL k : R N) = ofL l - mo c 0 * ofL m := by
  have key : ∀ (n : Nat) (l m k : List Int), l.length + m.length + k.length ≤ n → (∀ i, k.getD i 0 = l.getD i 0 - c * m.getD i 0) → (ofL k : R N) = ofL l - mo c 0 * ofL m := by
    intro n
    induction n with
    | zero =>
      intro l m k h _
      cases l <;> cases m <;> cases k <;> simp at h
      show (0 : R N) = 0 - mo c 0 * 0
      grind
    | succ n ih =>
      intro l m k hn h
      by_cases hz : l.length + m.length + k.length = 0
      · cases l <;> cases m <;> cases k <;> simp at hz
        show (0 : R N) = 0 - mo c 0 * 0
        grind
      have e1 : ∀ x : List Int, (ofL x : R N) = mo (x.getD 0 0) 0 + Xp 1 * ofL x.tail := by
        intro x
        cases x with
        | nil =>
          show (0 : R N) = mo ((0 : Nat) : Int) 0 + Xp 1 * 0
          show (0 : R N) = 0 + Xp 1 * 0
          grind
        | cons a x => rfl
      have t1 : ∀ (x : List Int) (i : Nat), x.tail.getD i 0 = x.getD (i + 1) 0 := by
        intro x i
        cases x <;> simp
      have it := ih l.tail m.tail k.tail (by simp only [List.length_tail]; omega) (fun i => by rw [t1, t1, t1]; exact h (i + 1))
      rw [e1 k, e1 l, e1 m, it, h 0]
      have e2 : (mo (l.getD 0 0 - c * m.getD 0 0) 0 : R N) = mo (l.getD 0 0) 0 - mo c 0 * mo (m.getD 0 0) 0 := by
        rw [mo_mo]
        apply R.ext
        intro i
        rw [sub_c, mo_c, mo_c, mo_c]
        have : (0 : Fin N) + 0 = 0 := by grind
        rw [this]
        split <;> omega
      rw [e2]
      grind
  exact fun l m k h => key _ l m k (Nat.le_refl _) h
theorem ofL_zeros (k : Nat) (l : List Int) : (ofL (List.replicate k 0 ++ l) : R N) = Xp k * ofL l := by
  induction k with
  | zero =>
    rw [Xp_zero]
    show ofL l = 1 * ofL l
    grind
  | succ k ih =>
    rw [List.replicate_succ, List.cons_append]
    show mo 0 0 + Xp 1 * ofL (List.replicate k 0 ++ l) = _
    rw [ih, Nat.add_comm, ← Xp_add]
    have : (mo 0 0 : R N) = 0 := rfl
    rw [this]
    grind
theorem fin_pred (i : Fin N) : (i - Fin.ofNat N 1).val = if i.val = 0 then N - 1 else i.val - 1 := by
  have h := i.isLt
  rw [Fin.sub_def]
  show (N - 1 % N + i.val) % N = _
  by_cases h1 : N = 1
  · subst h1; simp
  · have : 1 % N = 1 := Nat.mod_eq_of_lt (by omega)
    rw [this]
    split
    · rename_i h0
      rw [h0]; exact Nat.mod_eq_of_lt (by omega)
    · have : N - 1 + i.val = (i.val - 1) + N := by omega
      rw [this, Nat.add_mod_right]
      exact Nat.mod_eq_of_lt (by omega)
theorem ofL_c : ∀ (l : List Int), l.length ≤ N → ∀ i : Fin N, (ofL l : R N).c i = l.getD i.val 0
  | [], _, i => by
    show (0 : R N).c i = _
    rw [zero_c]; rfl
  | a :: l, h, i => by
    unfold ofL
    have h' : l.length + 1 ≤ N := by simpa using h
    rw [add_c, mo_c]
    unfold Xp
    rw [mo_mul, ofL_c l (by omega), fin_pred]
    have hi : (i = 0) ↔ i.val = 0 := by
      constructor
      · intro e; rw [e]; rfl
      · intro e; apply Fin.ext; rw [e]; rfl
    by_cases h0 : i.val = 0
    · rw [if_pos (hi.mpr h0), if_pos h0, h0]
      have : l.getD (N - 1) 0 = 0 := by
        rw [List.getD_eq_getElem?_getD, List.getElem?_eq_none (by omega)]
        rfl
      rw [this]; simp
    · rw [if_neg (fun z => h0 (hi.mp z)), if_neg h0]
      obtain ⟨m, hm⟩ : ∃ m, i.val = m + 1 := ⟨i.val - 1, by omega⟩
      rw [hm]
      simp
/-- what is left, with a multiple of o -/
theorem ofL_rest {o : List Int} (h : Mon o) (l : List Int) : ∃ q : R N, (ofL l : R N) = ofL ((List.range (o.length - 1)).map (hf o l)) + ofL o * q := by
  have h2 := h.two
  induction l with
  | nil =>
    refine ⟨0, ?_⟩
    have e := ofL_less (N := N) 0 [] [] ((List.range (o.length - 1)).map (hf o [])) (fun i => by
      rw [List.getD_eq_getElem?_getD, List.getElem?_map]
      by_cases hi : i < o.length - 1
      · rw [List.getElem?_range hi]; rfl
      · rw [List.getElem?_eq_none (by simpa using hi)]; rfl)
    rw [e]
    show (0 : R N) = 0 - mo 0 0 * 0 + ofL o * 0
    grind
  | cons a l ih =>
    obtain ⟨q, hq⟩ := ih
    refine ⟨q * Xp 1 + mo (hf o l (o.length - 2)) 0, ?_⟩
    have e := ofL_less (N := N) (hf o l (o.length - 2)) (a :: (List.range (o.length - 1)).map (hf o l)) o ((List.range (o.length - 1)).map (hf o (a :: l))) (fun i => by
      have g : ∀ (v : Nat → Int) (i : Nat), ((List.range (o.length - 1)).map v).getD i 0 = if i < o.length - 1 then v i else 0 := by
        intro v i
        rw [List.getD_eq_getElem?_getD, List.getElem?_map]
        by_cases hi : i < o.length - 1
        · rw [List.getElem?_range hi, if_pos hi]; rfl
        · rw [List.getElem?_eq_none (by simpa using hi), if_neg hi]; rfl
      rw [g]
      by_cases hi : i < o.length - 1
      · rw [if_pos hi, hf_cons]
        unfold shf
        cases i with
        | zero => simp only [if_true, List.getD_cons_zero]; omega
        | succ i =>
          rw [List.getD_cons_succ, g, if_pos (show i < o.length - 1 by omega), if_neg (show ¬ i + 1 = 0 by omega), if_neg (show ¬ i + 1 = 0 by omega), Nat.add_sub_cancel]
          omega
      · rw [if_neg hi]
        cases i with
        | zero => omega
        | succ i =>
          rw [List.getD_cons_succ, g]
          by_cases hj : i + 1 = o.length - 1
          · rw [if_pos (by omega), hj, h.lead]
            have : i = o.length - 2 := by omega
            rw [this]; omega
          · rw [if_neg (by omega), List.getD_eq_getElem?_getD (l := o), List.getElem?_eq_none (l := o) (by omega)]
            simp)
    have e3 : (ofL (a :: l) : R N) = mo a 0 + Xp 1 * ofL l := rfl
    have e4 : (ofL (a :: (List.range (o.length - 1)).map (hf o l)) : R N) = mo a 0 + Xp 1 * ofL ((List.range (o.length - 1)).map (hf o l)) := rfl
    rw [e3, hq, e, e4]
    grind
/-- nought at o: then a multiple of o -/
theorem mult_of {o : List Int} (h : Mon o) {l : List Int} (hz : ∀ j, hf o l j = 0) : ∃ q : R N, (ofL l : R N) = ofL o * q := by
  obtain ⟨q, hq⟩ := ofL_rest (N := N) h l
  refine ⟨q, ?_⟩
  have e := ofL_less (N := N) 0 [] [] ((List.range (o.length - 1)).map (hf o l)) (fun i => by
      rw [List.getD_eq_getElem?_getD, List.getElem?_map]
      by_cases hi : i < o.length - 1
      · rw [List.getElem?_range hi]; simp [hz]
      · rw [List.getElem?_eq_none (by simpa using hi)]; rfl)
  rw [hq, e]
  show (0 : R N) - mo 0 0 * 0 + ofL o * q = _
  grind
/-! ### the powers less one -/
def Pr (N : Nat) [NeZero N] (ps : List Nat) : R N := ps.foldr (fun p a => (1 - Xp (N / p)) * a) 1
/-- 1 and its like, p in all, t apart -/
def npL (t : Nat) : Nat → List Int
  | 0 => []
  | p + 1 => 1 :: (List.replicate (t - 1) 0 ++ npL t p)
def geo (Y : R N) : Nat → R N
  | 0 => 0
  | p + 1 => 1 + Y * geo Y p
theorem npL_geo {t : Nat} (ht : 1 ≤ t) : ∀ p, (ofL (npL t p) : R N) = geo (Xp t) p
  | 0 => rfl
  | p + 1 => by
    show mo 1 0 + Xp 1 * ofL (List.replicate (t - 1) 0 ++ npL t p) = 1 + Xp t * geo (Xp t) p
    rw [ofL_zeros, npL_geo ht p]
    have : (Xp 1 : R N) * (Xp (t - 1) * geo (Xp t) p) = (Xp 1 * Xp (t - 1)) * geo (Xp t) p := by grind
    rw [this, Xp_add]
    have : 1 + (t - 1) = t := by omega
    rw [this]
    rfl
theorem Nul.sub {o : List Int} {f g : R N} (hf : Nul o f) (hg : Nul o g) : Nul o (f - g) := by
  have e : f - g = f + mo (-1) 0 * g := by
    apply R.ext; intro i
    have : i - 0 = i := by grind
    rw [sub_c, add_c, mo_mul, this]; omega
  rw [e]
  exact hf.add fun j => by rw [Ev_mul0, hg j]; rfl
theorem geo_nul {o : List Int} (hW : Wrap N o) {Y : R N} : ∀ (p : Nat) (h : R N), Nul o (h * Y - h) → Nul o (h * geo Y p - mo (p : Nat) 0 * h)
  | 0, h, _ => by
    have : h * geo Y 0 - mo ((0 : Nat) : Int) 0 * h = 0 := by
      show h * 0 - 0 * h = 0
      grind
    rw [this]
    exact Nul.zero o
  | p + 1, h, hy => by
    have i1 := geo_nul hW p (h * Y) (by
      have : h * Y * Y - h * Y = Y * (h * Y - h) := by grind
      rw [this]
      exact hy.mul hW Y)
    have e0 : (mo ((p + 1 : Nat) : Int) 0 : R N) = mo (p : Nat) 0 + 1 := by
      apply R.ext; intro i
      rw [add_c, mo_c, mo_c]
      show _ = _ + (mo 1 0 : R N).c i
      rw [mo_c]
      split <;> simp
    have e : h * geo Y (p + 1) - mo ((p + 1 : Nat) : Int) 0 * h = (h * Y * geo Y p - mo (p : Nat) 0 * (h * Y)) + mo (p : Nat) 0 * (h * Y - h) := by
      rw [e0]
      show h * (1 + Y * geo Y p) - _ = _
      grind
    rw [e]
    exact i1.add (hy.mul hW _)
theorem nul_less {o : List Int} (hW : Wrap N o) {p : Nat} (hp : 1 ≤ p) (ht : 1 ≤ N / p) (hn : ∀ j, hf o (npL (N / p) p) j = 0) {h : R N} (hy : Nul o ((1 - Xp (N / p)) * h)) : Nul o h := by
  have i0 : Nul o (ofL (npL (N / p) p) : R N) := fun j => by rw [ofL_Ev hW]; exact hn j
  rw [npL_geo ht] at i0
  have i1 := geo_nul hW (Y := Xp (N / p)) p h (by
    have : h * Xp (N / p) - h = mo (-1) 0 * ((1 - Xp (N / p)) * h) := by
      have : (mo (-1) 0 : R N) = -1 := by
        apply R.ext; intro i
        rw [neg_c]
        show _ = -(mo 1 0 : R N).c i
        rw [mo_c, mo_c]
        split <;> simp
      rw [this]; grind
    rw [this]
    exact fun j => by rw [Ev_mul0, hy j]; rfl)
  have i2 := (i0.mul hW h).sub i1
  have e : h * geo (Xp (N / p)) p - (h * geo (Xp (N / p)) p - mo (p : Nat) 0 * h) = mo (p : Nat) 0 * h := by grind
  rw [e] at i2
  exact Nul.div (by omega) i2
/-- what is to be checked of an order -/
structure Good (N : Nat) [NeZero N] (o : List Int) (ps : List Nat) : Prop where
  mon : Mon o
  wrap : Wrap N o
  prm : ∀ p ∈ ps, 1 ≤ p ∧ 1 ≤ N / p ∧ ∀ j, hf o (npL (N / p) p) j = 0
  phi : (ofL o : R N) * Pr N ps = 0
theorem Good.nul {o : List Int} {ps : List Nat} (G : Good N o ps) (g : R N) : Nul o g ↔ Pr N ps * g = 0 := by
  constructor
  · intro h
    have e : ∃ l : List Int, (ofL l : R N) = g := by
      refine ⟨List.ofFn g.c, R.ext fun i => ?_⟩
      rw [ofL_c _ (by simp), List.getD_eq_getElem?_getD]
      simp
    obtain ⟨l, rfl⟩ := e
    obtain ⟨q, hq⟩ := mult_of (N := N) G.mon fun j => (ofL_Ev G.wrap l j).symm.trans (h j)
    have : Pr N ps * (ofL o * q) = q * (ofL o * Pr N ps) := by grind
    rw [hq, this, G.phi]
    grind
  · intro h
    have key : ∀ qs : List Nat, (∀ p ∈ qs, p ∈ ps) → ∀ g : R N, Nul o (Pr N qs * g) → Nul o g := by
      intro qs
      induction qs with
      | nil =>
        intro _ g hg
        have : Pr N [] * g = g := by
          show (1 : R N) * g = g
          grind
        rwa [this] at hg
      | cons p qs ih =>
        intro hs g hg
        obtain ⟨h1, h2, h3⟩ := G.prm p (hs p (by simp))
        refine ih (fun x hx => hs x (by simp [hx])) g (nul_less G.wrap h1 h2 h3 ?_)
        have : Pr N (p :: qs) * g = (1 - Xp (N / p)) * (Pr N qs * g) := by
          show (1 - Xp (N / p)) * Pr N qs * g = _
          grind
        rwa [this] at hg
    exact key ps (fun p hp => hp) g (by rw [h]; exact Nul.zero o)
/-! ### to be reckoned -/
/-- a row less itself, t further round -/
def rotl (t : Nat) (f : List Int) : List Int := f.drop (f.length - t) ++ f.take (f.length - t)
def lessT (t : Nat) (f : List Int) : List Int := List.zipWith (fun a b => a - b) f (rotl t f)
theorem rotl_len (t : Nat) (f : List Int) : (rotl t f).length = f.length := by
  unfold rotl
  simp
theorem lessT_len (t : Nat) (f : List Int) : (lessT t f).length = f.length := by
  unfold lessT
  simp [rotl_len]
theorem fin_back (i : Fin N) {t : Nat} (ht : t < N) : (i - Fin.ofNat N t).val = if t ≤ i.val then i.val - t else i.val + N - t := by
  have h := i.isLt
  rw [Fin.sub_def]
  show (N - t % N + i.val) % N = _
  rw [Nat.mod_eq_of_lt ht]
  split
  · have : N - t + i.val = (i.val - t) + N := by omega
    rw [this, Nat.add_mod_right]
    exact Nat.mod_eq_of_lt (by omega)
  · rw [Nat.mod_eq_of_lt (by omega)]; omega
theorem rotl_get {t : Nat} {f : List Int} (ht : t < f.length) {k : Nat} (hk : k < f.length) : (rotl t f).getD k 0 = f.getD (if t ≤ k then k - t else k + f.length - t) 0 := by
  unfold rotl
  rw [List.getD_eq_getElem?_getD, List.getD_eq_getElem?_getD]
  by_cases h : t ≤ k
  · rw [if_pos h, List.getElem?_append_right (by simp; omega), List.getElem?_take, if_pos (by simp; omega)]
    congr 2
    simp
    omega
  · rw [if_neg h, List.getElem?_append_left (by simp; omega), List.getElem?_drop]
    congr 2
    omega
theorem ofL_lessT {t : Nat} {f : List Int} (hf : f.length = N) (ht : t < N) : (ofL (lessT t f) : R N) = (1 - Xp t) * ofL f := by
  apply R.ext
  intro i
  have e : ((1 : R N) - Xp t) * ofL f = ofL f - Xp t * ofL f := by grind
  have hi := i.isLt
  rw [e, sub_c, ofL_c _ (by rw [lessT_len]; omega), ofL_c _ (by omega)]
  unfold Xp
  rw [mo_mul, ofL_c _ (by omega), fin_back i ht, Int.one_mul]
  have h2 := rotl_get (f := f) (t := t) (by omega) (k := i.val) (by omega)
  rw [hf] at h2
  rw [← h2]
  unfold lessT
  rw [List.getD_eq_getElem?_getD, List.getElem?_zipWith, List.getD_eq_getElem?_getD, List.getD_eq_getElem?_getD, List.getElem?_eq_getElem (by omega), List.getElem?_eq_getElem (by rw [rotl_len]; omega)]
  rfl
def lawF (N : Nat) (ps : List Nat) (f : List Int) : List Int := ps.foldr (fun p g => lessT (N / p) g) f
theorem lawF_len (ps : List Nat) (f : List Int) : (lawF N ps f).length = f.length := by
  unfold lawF
  induction ps with
  | nil => rfl
  | cons p ps ih => rw [List.foldr_cons, lessT_len, ih]
theorem ofL_lawF {ps : List Nat} (h : ∀ p ∈ ps, N / p < N) {f : List Int} (hf : f.length = N) : (ofL (lawF N ps f) : R N) = Pr N ps * ofL f := by
  induction ps with
  | nil =>
    show ofL f = 1 * ofL f
    grind
  | cons p ps ih =>
    show ofL (lessT (N / p) (lawF N ps f)) = (1 - Xp (N / p)) * Pr N ps * ofL f
    rw [ofL_lessT (by rw [lawF_len]; exact hf) (h p (by simp)), ih fun q hq => h q (by simp [hq])]
    grind
theorem ofL_nought {f : List Int} (hf : f.length ≤ N) : (ofL f : R N) = 0 ↔ (f.all fun x => decide (x = 0)) = true := by
  rw [List.all_eq_true]
  constructor
  · intro h x hx
    obtain ⟨i, hi, rfl⟩ := List.getElem_of_mem hx
    have := ofL_c (N := N) f hf ⟨i, by omega⟩
    rw [h, zero_c, List.getD_eq_getElem?_getD, List.getElem?_eq_getElem hi] at this
    simpa using this.symm
  · intro h
    apply R.ext
    intro i
    rw [ofL_c _ hf, zero_c, List.getD_eq_getElem?_getD]
    by_cases hi : i.val < f.length
    · rw [List.getElem?_eq_getElem hi]
      simpa using h _ (List.getElem_mem hi)
    · rw [List.getElem?_eq_none (by omega)]
      rfl
def zs (f : List Int) : Bool := f.all fun x => decide (x = 0)
def chkO (N : Nat) (o : List Int) (ps : List Nat) : Bool :=
  decide (1 ≤ N) && decide (2 ≤ o.length) && decide (o.length ≤ N) && decide (o.getD (o.length - 1) 0 = 1) && decide (hor o.dropLast (List.replicate N 0 ++ [1]) = hor o.dropLast [1])
  && (ps.all fun p => decide (2 ≤ p) && decide (1 ≤ N / p) && zs (hor o.dropLast (npL (N / p) p))) && zs (lawF N ps (o ++ List.replicate (N - o.length) 0))
theorem hf_top {o : List Int} (h : Mon o) : ∀ (l : List Int) (j : Nat), o.length - 1 ≤ j → hf o l j = 0
  | [], _, _ => rfl
  | a :: l, j, hj => by
    have h2 := h.two
    have ih := hf_top h l
    rw [hf_cons]
    unfold shf
    rw [if_neg (by omega), if_neg (by omega)]
    by_cases he : j = o.length - 1
    · subst he
      rw [h.lead]
      have : o.length - 1 - 1 = o.length - 2 := by omega
      rw [this]; omega
    · rw [ih (j - 1) (by omega), List.getD_eq_getElem?_getD (l := o), List.getElem?_eq_none (l := o) (by omega)]
      simp
theorem hf_of_hor {o : List Int} (h : Mon o) {l m : List Int} (e : hor o.dropLast l = hor o.dropLast m) (j : Nat) : hf o l j = hf o m j := by
  by_cases hj : j < o.length - 1
  · rw [← hor_hf h l j hj, ← hor_hf h m j hj, e]
  · rw [hf_top h l j (by omega), hf_top h m j (by omega)]
theorem hf_of_zs {o : List Int} (h : Mon o) {l : List Int} (e : zs (hor o.dropLast l) = true) (j : Nat) : hf o l j = 0 := by
  by_cases hj : j < o.length - 1
  · rw [← hor_hf h l j hj]
    unfold zs at e
    rw [List.all_eq_true] at e
    rw [List.getD_eq_getElem?_getD]
    cases z : (hor o.dropLast l)[j]? with
    | none => rfl
    | some x =>
      have := e x (List.mem_of_getElem? z)
      simpa using this
  · exact hf_top h l j (by omega)
theorem good_of {o : List Int} {ps : List Nat} (h : chkO N o ps = true) : Good N o ps ∧ o.length ≤ N ∧ ∀ p ∈ ps, 2 ≤ p ∧ N / p < N := by
  unfold chkO at h
  simp only [Bool.and_eq_true, decide_eq_true_eq, List.all_eq_true] at h
  obtain ⟨⟨⟨⟨⟨⟨h0, h1⟩, h2⟩, h3⟩, h4⟩, h5⟩, h6⟩ := h
  have M : Mon o := ⟨h1, h3⟩
  have lt : ∀ p ∈ ps, 2 ≤ p ∧ N / p < N := fun p hp => ⟨(h5 p hp).1.1, Nat.div_lt_self (by omega) (by have := (h5 p hp).1.1; omega)⟩
  refine ⟨⟨M, fun j => hf_of_hor M h4 j, fun p hp => ⟨by have := (h5 p hp).1.1; omega, (h5 p hp).1.2, hf_of_zs M (h5 p hp).2⟩, ?_⟩, h2, lt⟩
  have e1 : (ofL o : R N) = ofL (o ++ List.replicate (N - o.length) 0) := by
    have := ofL_less (N := N) 0 (o ++ List.replicate (N - o.length) 0) [] o (fun i => by
      rw [List.getD_eq_getElem?_getD, List.getD_eq_getElem?_getD (l := o ++ _), List.getElem?_append]
      split
      · simp
      · rw [List.getElem?_eq_none (by omega), List.getElem?_replicate]
        split <;> simp)
    rw [this]
    show ofL _ - mo 0 0 * 0 = _
    grind
  have e2 := ofL_lawF (N := N) (ps := ps) (fun p hp => (lt p hp).2) (f := o ++ List.replicate (N - o.length) 0) (by simp; omega)
  have e3 := (ofL_nought (N := N) (f := lawF N ps (o ++ List.replicate (N - o.length) 0)) (by rw [lawF_len]; simp; omega)).mpr h6
  rw [e1]
  have : (ofL (o ++ List.replicate (N - o.length) 0) : R N) * Pr N ps = Pr N ps * ofL (o ++ List.replicate (N - o.length) 0) := by grind
  rw [this, ← e2, e3]
/-- THE TWO ROADS: the long division, the powers less one -/
theorem same_nought {o : List Int} {ps : List Nat} (h : chkO N o ps = true) {f : List Int} (hf : f.length = N) : zs (remP f o) = zs (lawF N ps f) := by
  obtain ⟨G, hl, lt⟩ := good_of h
  rw [Bool.eq_iff_iff]
  unfold zs
  rw [remP_nought G.mon (by omega), ← ofL_nought (N := N) (by rw [lawF_len]; omega), ofL_lawF (fun p hp => (lt p hp).2) hf, ← G.nul]
  exact forall_congr' fun j => by rw [ofL_Ev G.wrap]
end GR

-- DA
/-! DA: more of the powers of x: turning over, wider rows, sums along a list. -/
namespace GR
variable {N : Nat} [NeZero N]
theorem Xp_mod (t : Nat) : (Xp (t % N) : R N) = Xp t := by
  unfold Xp
  congr 1
  apply Fin.ext
  show t % N % N = t % N
  exact Nat.mod_mod _ _
theorem Xp_N : (Xp N : R N) = 1 := by
  rw [← Xp_mod, Nat.mod_self, Xp_zero]
theorem Xp_self {t : Nat} (h : t % N = 0) : (Xp t : R N) = 1 := by
  rw [← Xp_mod, h, Xp_zero]
def pX (Y : R N) : Nat → R N
  | 0 => 1
  | k + 1 => Y * pX Y k
theorem Xp_mul (s k : Nat) : (Xp (s * k) : R N) = pX (Xp s) k := by
  induction k with
  | zero => rfl
  | succ k ih =>
    show _ = Xp s * pX (Xp s) k
    rw [← ih, Xp_add, Nat.mul_succ, Nat.add_comm]
/-! ### turning over -/
def cj (f : R N) : R N := ⟨fun i => f.c (-i)⟩
theorem cj_c (f : R N) (i : Fin N) : (cj f).c i = f.c (-i) := rfl
theorem cj_cj (f : R N) : cj (cj f) = f := R.ext fun i => by rw [cj_c, cj_c]; congr 1; grind
theorem cj_add (f g : R N) : cj (f + g) = cj f + cj g := R.ext fun i => rfl
theorem cj_sub (f g : R N) : cj (f - g) = cj f - cj g := R.ext fun i => rfl
theorem cj_zero : cj (0 : R N) = 0 := R.ext fun i => by rw [cj_c, zero_c, zero_c]
theorem cj_mo (v : Int) (a : Fin N) : cj (mo v a) = mo v (-a) := R.ext fun i => by
  rw [cj_c, mo_c, mo_c]
  by_cases h : -i = a
  · rw [if_pos h, if_pos (by grind)]
  · rw [if_neg h, if_neg (by grind)]
theorem cj_mul (f g : R N) : cj (f * g) = cj f * cj g := R.ext fun k => by
  rw [cj_c, mul_c, mul_c]
  refine (Sm_bij (fun i : Fin N => -i) (fun i => -i) (fun i j => by constructor <;> intro h <;> grind) fun i => f.c i * g.c (-k - i)).symm.trans ?_
  refine Sm_congr fun i => ?_
  rw [cj_c, cj_c]
  congr 2
  grind
theorem cj_Xp {t : Nat} : (cj (Xp t) : R N) * Xp t = 1 := by
  unfold Xp
  rw [cj_mo, mo_mo]
  have : -(Fin.ofNat N t) + Fin.ofNat N t = 0 := by grind
  rw [this]
  rfl
theorem cj_one : cj (1 : R N) = 1 := by
  show cj (mo 1 0) = mo 1 0
  rw [cj_mo]
  congr 1
  grind
/-- the powers less one, turned over: the same up to a unit -/
theorem cj_Pr (ps : List Nat) : ∃ U V : R N, U * V = 1 ∧ cj (Pr N ps) = U * Pr N ps := by
  induction ps with
  | nil => exact ⟨1, 1, by grind, by show cj (1 : R N) = 1 * 1; rw [cj_one]; grind⟩
  | cons p ps ih =>
    obtain ⟨U, V, h1, h2⟩ := ih
    refine ⟨-(cj (Xp (N / p))) * U, -(Xp (N / p)) * V, ?_, ?_⟩
    · have := cj_Xp (N := N) (t := N / p)
      grind
    · have := cj_Xp (N := N) (t := N / p)
      show cj ((1 - Xp (N / p)) * Pr N ps) = -(cj (Xp (N / p))) * U * ((1 - Xp (N / p)) * Pr N ps)
      rw [cj_mul, cj_sub, cj_one, h2]
      grind
theorem cj_nul (ps : List Nat) (f : R N) : Pr N ps * cj f = 0 ↔ Pr N ps * f = 0 := by
  have key : ∀ g : R N, Pr N ps * g = 0 → Pr N ps * cj g = 0 := by
    intro g h
    obtain ⟨U, V, h1, h2⟩ := cj_Pr (N := N) ps
    have h3 := congrArg cj h
    rw [cj_mul, cj_zero, h2] at h3
    have : Pr N ps * cj g = V * (U * Pr N ps * cj g) := by grind
    rw [this, h3]
    grind
  constructor
  · intro h
    have := key _ h
    rwa [cj_cj] at this
  · exact key f
/-! ### sums along a list -/
section
variable {α : Type}
def Su (Y : R N) (g : α → R N) : List α → R N
  | [] => 0
  | a :: l => g a + Y * Su Y g l
theorem Su_ofL (l : List Int) : Su (Xp 1 : R N) (fun a => mo a 0) l = ofL l := by
  induction l with
  | nil => rfl
  | cons a l ih => show _ + _ * _ = _ + _ * _; rw [ih]
theorem Su_map {β : Type} (Y : R N) (g : β → R N) (e : α → β) (l : List α) : Su Y g (l.map e) = Su Y (fun a => g (e a)) l := by
  induction l with
  | nil => rfl
  | cons a l ih => rw [List.map_cons]; show _ + _ * _ = _ + _ * _; rw [ih]
theorem Su_cj (Y : R N) (g : α → R N) (l : List α) : cj (Su Y g l) = Su (cj Y) (fun a => cj (g a)) l := by
  induction l with
  | nil => exact cj_zero
  | cons a l ih => show cj (_ + _ * _) = _ + _ * _; rw [cj_add, cj_mul, ih]
/-- what holds of each holds of the sum -/
theorem Su_lin (Y P : R N) (k1 k2 k3 k4 : R N) (g1 g2 g3 g4 : α → R N) (h : ∀ a, P * (k1 * g1 a) = P * (k2 * g2 a + k3 * g3 a + k4 * g4 a)) (l : List α) : P * (k1 * Su Y g1 l) = P * (k2 * Su Y g2 l + k3 * Su Y g3 l + k4 * Su Y g4 l) := by
  induction l with
  | nil => show P * (k1 * 0) = P * (k2 * 0 + k3 * 0 + k4 * 0); grind
  | cons a l ih =>
    have ha := h a
    show P * (k1 * (g1 a + Y * Su Y g1 l)) = P * (k2 * (g2 a + Y * Su Y g2 l) + k3 * (g3 a + Y * Su Y g3 l) + k4 * (g4 a + Y * Su Y g4 l))
    have e1 : P * (k1 * (g1 a + Y * Su Y g1 l)) = P * (k1 * g1 a) + Y * (P * (k1 * Su Y g1 l)) := by grind
    rw [e1, ha, ih]
    grind
theorem Su_eq (Y P : R N) (g1 g2 : α → R N) (h : ∀ a, P * g1 a = P * g2 a) (l : List α) : P * Su Y g1 l = P * Su Y g2 l := by
  induction l with
  | nil => rfl
  | cons a l ih =>
    have ha := h a
    show P * (g1 a + Y * Su Y g1 l) = P * (g2 a + Y * Su Y g2 l)
    have e1 : P * (g1 a + Y * Su Y g1 l) = P * g1 a + Y * (P * Su Y g1 l) := by grind
    rw [e1, ha, ih]
    grind
end
/-! ### wider rows -/
def wide3 (f : List Int) : List Int := f.flatMap fun a => [a, 0, 0]
theorem wide3_len (f : List Int) : (wide3 f).length = 3 * f.length := by
  unfold wide3
  induction f with
  | nil => rfl
  | cons a f ih => rw [List.flatMap_cons, List.length_append, ih]; simp; omega
theorem wide3_cons (a : Int) (f : List Int) : wide3 (a :: f) = a :: 0 :: 0 :: wide3 f := rfl
theorem wide3_get : ∀ (f : List Int) (i : Nat), (wide3 f).getD i 0 = if i % 3 = 0 then f.getD (i / 3) 0 else 0
  | [], i => by
    show ([] : List Int).getD i 0 = _
    simp
  | a :: f, 0 => rfl
  | a :: f, 1 => rfl
  | a :: f, 2 => rfl
  | a :: f, i + 3 => by
    rw [wide3_cons]
    simp only [List.getD_cons_succ]
    rw [wide3_get f i]
    have h1 : (i + 3) % 3 = i % 3 := by omega
    have h2 : (i + 3) / 3 = i / 3 + 1 := by omega
    rw [h1, h2, List.getD_cons_succ]
theorem wide3_drop : ∀ (k : Nat) (f : List Int), (wide3 f).drop (3 * k) = wide3 (f.drop k)
  | 0, f => rfl
  | k + 1, [] => by simp [wide3]
  | k + 1, a :: f => by
    rw [wide3_cons, Nat.mul_succ]
    show (wide3 f).drop (3 * k) = _
    rw [wide3_drop k f]
    rfl
theorem wide3_take : ∀ (k : Nat) (f : List Int), (wide3 f).take (3 * k) = wide3 (f.take k)
  | 0, f => rfl
  | k + 1, [] => by simp [wide3]
  | k + 1, a :: f => by
    rw [wide3_cons, Nat.mul_succ]
    show a :: 0 :: 0 :: (wide3 f).take (3 * k) = _
    rw [wide3_take k f]
    rfl
theorem wide3_append (f g : List Int) : wide3 f ++ wide3 g = wide3 (f ++ g) := by
  unfold wide3
  rw [List.flatMap_append]
theorem wide3_zip : ∀ (f g : List Int), List.zipWith (fun a b => a - b) (wide3 f) (wide3 g) = wide3 (List.zipWith (fun a b => a - b) f g)
  | [], _ => by simp [wide3]
  | _ :: _, [] => by simp [wide3]
  | a :: f, b :: g => by
    rw [wide3_cons, wide3_cons]
    simp only [List.zipWith_cons_cons, wide3_cons, wide3_zip f g]
    rfl
theorem wide3_lessT (t : Nat) (f : List Int) : lessT (3 * t) (wide3 f) = wide3 (lessT t f) := by
  unfold lessT rotl
  rw [wide3_len, ← Nat.mul_sub, wide3_drop, wide3_take, wide3_append, wide3_zip]
theorem wide3_lawF {n : Nat} (f : List Int) : ∀ (ps : List Nat), (∀ p ∈ ps, n % p = 0 ∧ 0 < p) → lawF (3 * n) ps (wide3 f) = wide3 (lawF n ps f)
  | [], _ => rfl
  | p :: ps, h => by
    show lessT (3 * n / p) (lawF (3 * n) ps (wide3 f)) = wide3 (lessT (n / p) (lawF n ps f))
    rw [wide3_lawF f ps fun q hq => h q (by simp [hq]), Nat.mul_div_assoc 3 (Nat.dvd_of_mod_eq_zero (h p (by simp)).1), wide3_lessT]
theorem wide3_zs {n : Nat} {g : List Int} (hg : g.length = n) (h3 : n % 3 ≠ 0) : zs (lessT n (wide3 g)) = zs g := by
  have hl := wide3_len g
  have hll := lessT_len n (wide3 g)
  have val : ∀ i, i < 3 * n → (lessT n (wide3 g)).getD i 0 = (wide3 g).getD i 0 - (wide3 g).getD (if n ≤ i then i - n else i + 3 * n - n) 0 := by
    intro i hi
    have h2 := rotl_get (f := wide3 g) (t := n) (by omega) (k := i) (by omega)
    rw [hl, hg] at h2
    rw [← h2]
    unfold lessT
    rw [List.getD_eq_getElem?_getD, List.getElem?_zipWith, List.getD_eq_getElem?_getD, List.getD_eq_getElem?_getD, List.getElem?_eq_getElem (by omega), List.getElem?_eq_getElem (by rw [rotl_len]; omega)]
    rfl
  unfold zs
  rw [Bool.eq_iff_iff, List.all_eq_true, List.all_eq_true]
  constructor
  · intro h x hx
    obtain ⟨k, hk, rfl⟩ := List.getElem_of_mem hx
    have h5 : 3 * k < (lessT n (wide3 g)).length := by omega
    have h6 := h _ (List.getElem_mem h5)
    have h7 := val (3 * k) (by omega)
    rw [List.getD_eq_getElem?_getD, List.getElem?_eq_getElem h5] at h7
    rw [wide3_get, wide3_get] at h7
    have e1 : 3 * k % 3 = 0 := by omega
    have e2 : 3 * k / 3 = k := by omega
    have e3 : ¬ (if n ≤ 3 * k then 3 * k - n else 3 * k + 3 * n - n) % 3 = 0 := by split <;> omega
    rw [if_pos e1, e2, if_neg e3, List.getD_eq_getElem?_getD, List.getElem?_eq_getElem hk] at h7
    simp only [Option.getD_some, Int.sub_zero] at h7
    rw [← h7]
    exact h6
  · intro h x hx
    obtain ⟨i, hi, rfl⟩ := List.getElem_of_mem hx
    have h7 := val i (by omega)
    rw [List.getD_eq_getElem?_getD, List.getElem?_eq_getElem hi] at h7
    have z : ∀ j, g.getD j 0 = 0 := by
      intro j
      rw [List.getD_eq_getElem?_getD]
      cases e : g[j]? with
      | none => rfl
      | some y => have := h y (List.mem_of_getElem? e); simpa using this
    rw [wide3_get, wide3_get, z, z] at h7
    simp only [Option.getD_some] at h7
    rw [h7]
    simp
theorem ofL_wide3 (f : List Int) : (ofL (wide3 f) : R N) = Su (Xp 3) (fun a => mo a 0) f := by
  induction f with
  | nil => rfl
  | cons a f ih =>
    rw [wide3_cons]
    show mo a 0 + Xp 1 * (mo 0 0 + Xp 1 * (mo 0 0 + Xp 1 * ofL (wide3 f))) = mo a 0 + Xp 3 * Su (Xp 3) (fun a => mo a 0) f
    rw [ih]
    have e0 : (mo 0 0 : R N) = 0 := rfl
    have e3 : (Xp 3 : R N) = Xp 1 * (Xp 1 * Xp 1) := by rw [Xp_add, Xp_add]
    rw [e0, e3]
    grind
theorem Pr_perm {ps qs : List Nat} (h : ps.Perm qs) : (Pr N ps : R N) = Pr N qs := by
  induction h with
  | nil => rfl
  | cons x _ ih => exact congrArg (fun r => (1 - Xp (N / x)) * r) ih
  | swap x y l =>
    show (1 - Xp (N / y)) * ((1 - Xp (N / x)) * Pr N l) = (1 - Xp (N / x)) * ((1 - Xp (N / y)) * Pr N l)
    grind
  | trans _ _ a b => exact a.trans b
/-! ### a third of the way round -/
theorem third {ps : List Nat} (h3 : N % 3 = 0) (hp : 3 ∈ ps) : Pr N ps * (1 + Xp (N / 3) + Xp (N / 3) * Xp (N / 3)) = 0 := by
  have hw : (Xp (N / 3) : R N) * (Xp (N / 3) * Xp (N / 3)) = 1 := by
    rw [Xp_add, Xp_add]
    apply Xp_self
    have : N / 3 + (N / 3 + N / 3) = N := by omega
    rw [this]; exact Nat.mod_self N
  induction ps with
  | nil => cases hp
  | cons p ps ih =>
    show (1 - Xp (N / p)) * Pr N ps * _ = 0
    rcases List.mem_cons.mp hp with e | e
    · subst e
      grind
    · have := ih e
      grind
theorem tors {v : Int} (hv : v ≠ 0) {g : R N} (h : mo v 0 * g = 0) : g = 0 := R.ext fun i => by
  have := congrArg (fun r : R N => r.c i) h
  simp only [mo_mul, zero_c] at this
  have e : i - 0 = i := by grind
  rw [e] at this
  rw [zero_c]
  rcases Int.mul_eq_zero.mp this with z | z
  · exact absurd z hv
  · exact z
end GR

-- K76F
/-! K76F: what each def does, in plain words. -/
namespace K76
open PySem PySem.Spec L2 VL PyProof.Rows
abbrev li (xs : List Int) : D := .lst (xs.map D.int)
abbrev ti (xs : List Int) : D := .tup (xs.map D.int)
abbrev pD (p : Int × Int) : D := .tup [.int p.1, .int p.2]
abbrev lp (P : List (Int × Int)) : D := .lst (P.map pD)
abbrev wD (a b c : List Int) : D := .tup [ti a, ti b, ti c]
def ordersL : List Nat := [2, 3, 4, 5, 6, 7, 8, 9, 10, 12, 15, 20, 21, 24, 30, 60]
def slotsL : List Nat := [6, 4, 9, 3, 8, 5, 12, 2, 7, 10, 20]
/-- the urn -/
def U (es : List D) : Prop := ∃ a b c : Int, es = [.int a, .int b, .int c]
/-! ### polys -/
def subAt (start : Nat) (lead : Int) (o f : List Int) : List Int := o.zipIdx.foldl (fun f p => f.set (start + p.2) (f.getD (start + p.2) 0 - lead * p.1)) f
def ppStep (o : List Int) (start : Nat) (f : List Int) : List Int := if f.getD (start + o.length - 1) 0 = 0 then f else subAt start (f.getD (start + o.length - 1) 0) o f
def remP (l o : List Int) : List Int := ((List.range (l.length - o.length + 1)).foldl (fun f k => ppStep o (l.length - o.length - k) f) l).take (o.length - 1)
def ppT (n : Nat) : List Int := ((List.range (n + 1)).filter fun p => decide (2 ≤ p) && decide (n % p = 0) && ((List.range (p - 2)).all fun d => !decide (p % (d + 2) = 0))).map fun (k : Nat) => (k : Int)
def tlo (p : List Int) (k : Nat) : List Int := ((List.replicate k 0 ++ p).zip (p ++ List.replicate k 0)).map fun (q : Int × Int) => q.1 - q.2
def bloStep (k : Nat) (f : List Int) (place : Nat) : List Int := f.set (place - k) (f.getD (place - k) 0 + f.getD place 0)
def blo (p : List Int) (k : Nat) : List Int := ((List.range (p.length - k)).foldl (fun f j => bloStep k f (p.length - 1 - j)) p).drop k
/-- the powers above and below -/
def abF (q : List Nat × List Nat) (p : Int) : List Nat × List Nat := (q.1 ++ q.2.map (· / p.toNat), q.2 ++ q.1.map (· / p.toNat))
def abT (n : Nat) : List Nat × List Nat := (ppT n).foldl abF ([n], [])
def polyT (n : Nat) : List Int := (abT n).2.foldl blo ((abT n).1.foldl tlo [1])
def redO (n : Nat) (f : List Int) : List Int := remP f (polyT n)
def fs_poly_parted : FS := fun ds Q => ∃ l o : List Int, ds = [li l, li o] ∧ 1 ≤ o.length ∧ o.length ≤ l.length ∧ l.length ≤ 1000 ∧ (∀ x ∈ o, -(2 ^ 64) < x ∧ x < 2 ^ 64) ∧ ∀ fnd : List Int, Q (.tup [li fnd, li (remP l o)]) false []
def fs_prime_parts : FS := fun ds Q => ∃ n : Nat, ds = [.int n] ∧ n ∈ ordersL ∧ Q (li (ppT n)) true []
def fs_times_less_one : FS := fun ds Q => ∃ (p : List Int) (k : Nat), ds = [li p, .int k] ∧ p.length ≤ 1000 ∧ k ≤ 1000 ∧ Q (li (tlo p k)) true []
def fs_by_less_one : FS := fun ds Q => ∃ (p : List Int) (k : Nat), ds = [li p, .int k] ∧ p.length ≤ 1000 ∧ 1 ≤ k ∧ k ≤ p.length ∧ Q (li (blo p k)) true []
def fs_polynomial_of_order : FS := fun ds Q => ∃ n : Nat, ds = [.int n] ∧ n ∈ ordersL ∧ Q (li (polyT n)) true []
def fs_folded_round : FS := fun ds Q => ∃ (f : List Int) (n : Nat), ds = [li f, .int n] ∧ f.length = n ∧ 1 ≤ n ∧ n ≤ 1000 ∧ Q (li f) true []
def fs_reduced : FS := fun ds Q => ∃ (f : List Int) (n : Nat), ds = [li f, .int n] ∧ f.length = n ∧ n ∈ ordersL ∧ Q (ti (redO n f)) false []
/-! ### values, rows -/
def fs_is_whole : FS := fun ds Q => ∃ d : D, ds = [d] ∧ isRaw d = false ∧ Q (.bl (isTy .int d && !isTy .bool d)) false []
def fs_is_between : FS := fun ds Q => ∃ v lo hi : Int, ds = [.int v, .int lo, .int hi] ∧ Q (.bl (decide (lo ≤ v) && decide (v ≤ hi))) false []
def fs_are_wholes : FS := fun ds Q => ∃ (r : List Int) (n : Nat), ds = [ti r, .int n] ∧ r.length = n ∧ n ≤ 1000 ∧ Q (.bl true) false []
def fs_made : FS := fun ds Q => ∃ (f : List Int) (n : Nat), ds = [.int n, li f] ∧ f.length = n ∧ n ∈ ordersL ∧ Q (.tup [.int n, ti (redO n f)]) false []
def fs_is_nothing : FS := fun ds Q => ∃ (n : Int) (r : List Int), ds = [.tup [.int n, ti r]] ∧ r.length ≤ 1000 ∧ Q (.bl (r.all fun x => decide (x = 0))) false []
def fs_is_slots : FS := fun ds Q => ∃ v : Int, ds = [.int v] ∧ 2 ≤ v ∧ v ≤ 60 ∧ Q (.bl true) false []
def fs_is_row : FS := fun ds Q => ∃ r : List Int, ds = [ti r] ∧ 2 ≤ r.length ∧ r.length ≤ 60 ∧ Q (.bl true) false []
def fs_is_phase : FS := fun ds Q => ∃ r : List Int, ds = [ti r] ∧ 2 ≤ r.length ∧ r.length ≤ 60 ∧ r.sum = 0 ∧ Q (.bl true) false []
/-- bounds of size -/
def bdL (B : Nat) (xs : List Int) : Prop := ∀ x ∈ xs, x.natAbs < B
def bdP (B : Nat) (P : List (Int × Int)) : Prop := ∀ p ∈ P, p.1.natAbs < B ∧ p.2.natAbs < B
/-- three rows of n slots -/
structure Wd (n : Nat) (a b c : List Int) : Prop where
  mem : n ∈ slotsL
  la : a.length = n
  lb : b.length = n
  lc : c.length = n
  sa : a.sum = 0
  sb : b.sum = 0
  sc : c.sum = 0
  ba : bdL 100000000000000000000 a
  bb : bdL 100000000000000000000 b
  bc : bdL 100000000000000000000 c
def fs_check_winding : FS := fun ds Q => ∃ (n : Nat) (a b c : List Int), ds = [wD a b c] ∧ Wd n a b c ∧ Q .non false []
def fs_check_three : FS := fun ds Q => ∃ (n : Nat) (a b c : List Int), ds = [wD a b c] ∧ Wd n a b c ∧ Q .non false []
def ptsOf (a b c : List Int) : List (Int × Int) := (a.zip (b.zip c)).map fun q => (q.1 - q.2.1, q.2.2 - q.2.1)
def fs_points_of : FS := fun ds Q => ∃ (n : Nat) (a b c : List Int), ds = [wD a b c] ∧ Wd n a b c ∧ Q (lp (ptsOf a b c)) true []
/-! ### waves -/
def ordOf (n : Nat) : Nat := if n % 3 = 0 then n else 3 * n
/-- the row of a wave: h any whole number -/
def addAt (f : List Int) (i : Nat) (v : Int) : List Int := f.set i (f.getD i 0 + v)
def angle (n : Nat) (h : Int) (s : Nat) : Nat := (((ordOf n / n : Nat) : Int) * h * s % (ordOf n : Nat)).toNat
def waveRow (P : List (Int × Int)) (h : Int) : List Int :=
  P.zipIdx.foldl (fun f q => addAt (addAt f (angle P.length h q.2) q.1.1) ((angle P.length h q.2 + ordOf P.length / 3) % ordOf P.length) q.1.2) (List.replicate (ordOf P.length) 0)
def hasW (P : List (Int × Int)) (h : Int) : Bool := !(redO (ordOf P.length) (waveRow P h)).all fun x => decide (x = 0)
def fs_taken_by : FS := fun ds Q => ∃ (P : List (Int × Int)) (h : Int), ds = [lp P, .int h] ∧ P.length ∈ slotsL ∧ Q (.tup [.int (ordOf P.length : Nat), ti (redO (ordOf P.length) (waveRow P h))]) false []
def fs_wave_of : FS := fun ds Q => ∃ (n : Nat) (a b c : List Int) (h : Int), ds = [wD a b c, .int h] ∧ Wd n a b c ∧ Q (.tup [.int (ordOf n : Nat), ti (redO (ordOf n) (waveRow (ptsOf a b c) h))]) false []
def fs_has_wave : FS := fun ds Q => ∃ (n : Nat) (a b c : List Int) (h : Int), ds = [wD a b c, .int h] ∧ Wd n a b c ∧ Q (.bl (hasW (ptsOf a b c) h)) false []
def wvs (P : List (Int × Int)) : List Int := ((List.range P.length).filter fun (k : Nat) => hasW P (k : Int)).map fun (k : Nat) => (k : Int)
def fs_waves_of : FS := fun ds Q => ∃ (n : Nat) (a b c : List Int), ds = [wD a b c] ∧ Wd n a b c ∧ Q (li (wvs (ptsOf a b c))) true []
/-! ### rotors -/
def dv (n p : Nat) : Nat := Nat.gcd (2 * p) n
def lob (P : List (Int × Int)) (p : Nat) : List Int := ((List.range (dv P.length p)).filter fun (k : Nat) => (wvs P).any fun h => decide (((p : Int) - h) % (dv P.length p : Nat) = k) || decide ((h - (p : Int)) % (dv P.length p : Nat) = k)).map fun (k : Nat) => (k : Int)
def rip (P : List (Int × Int)) (p m : Nat) : Bool := hasW P ((p : Int) + 2 * m * p) || hasW P ((p : Int) - 2 * m * p)
def rips (P : List (Int × Int)) (p : Nat) : List Int := ((List.range (P.length / dv P.length p)).filter fun (k : Nat) => rip P p k).map fun (k : Nat) => (k : Int)
def least (P : List (Int × Int)) (p : Nat) : D := match (List.range (P.length / dv P.length p)).find? fun k => rip P p (k + 1) with
  | some k => .int ((k : Int) + 1)
  | none => .non
def Pr (p : Nat) : Prop := 1 ≤ p ∧ p ≤ 60
def fs_check_pairs : FS := fun ds Q => ∃ p : Nat, ds = [.int p] ∧ Pr p ∧ Q .non false []
def fs_check_rotor : FS := fun ds Q => ∃ (n : Nat) (a b c : List Int) (p : Nat), ds = [wD a b c, .int p] ∧ Wd n a b c ∧ Pr p ∧ Q .non false []
def fs_divisor_for : FS := fun ds Q => ∃ (n : Nat) (a b c : List Int) (p : Nat), ds = [wD a b c, .int p] ∧ Wd n a b c ∧ Pr p ∧ Q (.int (dv n p : Nat)) false []
def fs_lobes_mixed : FS := fun ds Q => ∃ (n : Nat) (a b c : List Int) (p : Nat), ds = [wD a b c, .int p] ∧ Wd n a b c ∧ Pr p ∧ Q (li (lob (ptsOf a b c) p)) true []
def fs_ripples_at : FS := fun ds Q => ∃ (n : Nat) (a b c : List Int) (p m : Nat), ds = [wD a b c, .int p, .int m] ∧ Wd n a b c ∧ Pr p ∧ Q (.bl (rip (ptsOf a b c) p m)) false []
def fs_mixed_lobes : FS := fun ds Q => ∃ (n : Nat) (a b c : List Int) (p : Nat), ds = [wD a b c, .int p] ∧ Wd n a b c ∧ Pr p ∧ Q (.tup [.int (dv n p : Nat), ti (lob (ptsOf a b c) p)]) false []
def fs_mixed_pulls : FS := fun ds Q => ∃ (n : Nat) (a b c : List Int) (p : Nat), ds = [wD a b c, .int p] ∧ Wd n a b c ∧ Pr p ∧ Q (.bl (decide ((1 : Int) % (dv n p : Nat) ∈ lob (ptsOf a b c) p))) false []
def fs_is_ripple : FS := fun ds Q => ∃ (n : Nat) (a b c : List Int) (p m : Nat), ds = [wD a b c, .int p, .int m] ∧ Wd n a b c ∧ Pr p ∧ Q (.bl (rip (ptsOf a b c) p m)) false []
def fs_ripples : FS := fun ds Q => ∃ (n : Nat) (a b c : List Int) (p : Nat), ds = [wD a b c, .int p] ∧ Wd n a b c ∧ Pr p ∧ Q (.tup [.int (n / dv n p : Nat), ti (rips (ptsOf a b c) p)]) false []
def fs_least_ripple : FS := fun ds Q => ∃ (n : Nat) (a b c : List Int) (p : Nat), ds = [wD a b c, .int p] ∧ Wd n a b c ∧ Pr p ∧ Q (least (ptsOf a b c) p) false []
/-! ### the law's own defs -/
def fs_law_urn : FS := fun ds Q => ∃ (ns : List Int) (t : Nat), ds = [.fz (ns.map D.int), .int t] ∧ t ≤ 1000 ∧ ∀ u, U u → Q (.lst u) true []
def fs_law_draw : FS := fun ds Q => ∃ (u : List D) (m : Int), ds = [.lst u, .int m] ∧ U u ∧ 0 < m ∧ m < 1073741824 ∧ ∀ (r : Nat) u', (r : Int) < m → U u' → Q (.int r) false [.lst u']
def fs_law_pick : FS := fun ds Q => ∃ u xs : List D, ds = [.lst u, .lst xs] ∧ U u ∧ 0 < xs.length ∧ xs.length < 1000000 ∧ ∀ x u', x ∈ xs → U u' → Q x false [.lst u']
def fs_law_turns : FS := fun ds Q => ∃ u : List D, ds = [.lst u] ∧ U u ∧ ∀ (t : Int) u', t.natAbs < 1000000000000000 → U u' → Q (.int t) false [.lst u']
def fs_law_wired : FS := fun ds Q => ∃ (u : List D) (n lo hi : Nat), ds = [.lst u, .int n, .int lo, .int hi] ∧ U u ∧ 2 ≤ n ∧ n ≤ 1000 ∧ lo ≤ hi ∧ hi ≤ 1000 ∧ ∀ (r : List Int) u', r.length = n → r.sum = 0 → bdL 10000000000000000000 r → U u' → Q (li r) true [.lst u']
def fs_law_points : FS := fs_points_of
def rot (p : Int × Int) : Int × Int := (p.1 - p.2, p.1)
def six : Nat → Int × Int → Int × Int
  | 0, p => p
  | k + 1, p => six k (rot p)
def fs_law_sixths : FS := fun ds Q => ∃ (p : Int × Int) (m : Int), ds = [pD p, .int m] ∧ Q (pD (six (m % 6).toNat p)) false []
/-- points that add up to none -/
structure Pt (n : Nat) (P : List (Int × Int)) : Prop where
  mem : n ∈ slotsL
  len : P.length = n
  s1 : (P.map (·.1)).sum = 0
  s2 : (P.map (·.2)).sum = 0
  bd : bdP 1000000 P
def fs_law_spread : FS := fun ds Q => ∃ (u : List D) (n : Nat) (P : List (Int × Int)), ds = [.lst u, lp P] ∧ U u ∧ Pt n P ∧ ∀ (a b c : List Int) u', Wd n a b c → U u' → Q (wD a b c) false [.lst u']
def fs_law_repeated : FS := fun ds Q => ∃ (u : List D) (n : Nat), ds = [.lst u, .int n] ∧ U u ∧ n ∈ slotsL ∧ ∀ (P : List (Int × Int)) u', Pt n P → bdP 1000 P → U u' → Q (lp P) true [.lst u']
def fs_law_mirrored : FS := fun ds Q => ∃ (u : List D) (n : Nat) (P : List (Int × Int)), ds = [.lst u, lp P] ∧ U u ∧ Pt n P ∧ bdP 1000 P ∧ ∀ (P' : List (Int × Int)) u', Pt n P' → U u' → Q (lp P') true [.lst u']
def fs_law_belted : FS := fun ds Q => ∃ (u : List D) (n : Nat), ds = [.lst u, .int n] ∧ U u ∧ (n = 6 ∨ n = 12) ∧ ∀ (P : List (Int × Int)) u', Pt n P → U u' → Q (lp P) true [.lst u']
def fs_law_three : FS := fun ds Q => ∃ (u : List D) (n : Nat), ds = [.lst u, .int n] ∧ U u ∧ n ∈ slotsL ∧ ∀ (a b c : List Int) u', Wd n a b c → U u' → Q (wD a b c) false [.lst u']
def lawAng (n h s : Nat) : Nat := h * s % n * (ordOf n / n)
def lawRow (P : List (Int × Int)) (h : Nat) : List Int :=
  P.zipIdx.foldl (fun f q => addAt (addAt f (lawAng P.length h q.2) q.1.1) ((lawAng P.length h q.2 + ordOf P.length / 3) % ordOf P.length) q.1.2) (List.replicate (ordOf P.length) 0)
/-- found[k] - found[k - t], round -/
def backs (t : Nat) (f : List Int) : List Int := (List.range f.length).map fun k => f.getD k 0 - f.getD (if t ≤ k then k - t else k + f.length - t) 0
def lawN (f : List Int) : Bool := ((ppT f.length).foldl (fun g p => backs (f.length / p.toNat) g) f).all fun x => decide (x = 0)
def lawW (P : List (Int × Int)) (h : Nat) : Bool := !lawN (lawRow P h)
def lwvs (P : List (Int × Int)) : List Int := ((List.range P.length).filter fun (k : Nat) => lawW P k).map fun (k : Nat) => (k : Int)
def fs_law_wave_row : FS := fun ds Q => ∃ (P : List (Int × Int)) (h : Int), ds = [lp P, .int h] ∧ P.length ∈ slotsL ∧ Q (li (lawRow P (h % (P.length : Int)).toNat)) true []
def fs_law_is_nought : FS := fun ds Q => ∃ f : List Int, ds = [li f] ∧ f.length ∈ ordersL ∧ Q (.bl (lawN f)) false []
def fs_law_waves : FS := fun ds Q => ∃ P : List (Int × Int), ds = [lp P] ∧ P.length ∈ slotsL ∧ Q (li (lwvs P)) true []
def lrip (some : List Int) (n p m : Nat) : Bool := decide ((((2 * m + 1 : Int)) * p) % (n : Int) ∈ some) || (decide (0 < (2 * m - 1 : Int)) && decide ((0 - (2 * m - 1 : Int) * p) % (n : Int) ∈ some))
def fs_law_is_ripple : FS := fun ds Q => ∃ (some : List Int) (n p m : Nat), ds = [li some, .int n, .int p, .int m] ∧ 0 < n ∧ Pr p ∧ Q (.bl (lrip some n p m)) false []
def fs_law_asked : FS := fun ds Q => ∃ (u : List D) (n : Nat) (a b c : List Int) (p : Nat), ds = [.lst u, wD a b c, .int n, li (lwvs (ptsOf a b c)), .int p] ∧ U u ∧ Wd n a b c ∧ Pr p ∧ ∀ u', U u' → Q (.bl true) false [.lst u']
def fs_law_right : FS := fun ds Q => ∃ u : List D, ds = [.lst u] ∧ U u ∧ ∀ u', U u' → Q (.bl true) false [.lst u']
def fs_law0 : FS := fun ds Q => ∃ ns : List Int, ds = [.fz (ns.map D.int)] ∧ ns.length ≤ 63 ∧ Q (.bl true) false []
end K76

-- K76B
namespace K76
open PySem PySem.Spec L2 VL PyProof.Rows
/-- poly_parted(poly, other, found, start, left, size, lead, index, entry) -/
def b_poly_parted : WS := (sCons (sPar [4, 5] (fCons (wB oList (aCons (oVar 0) aNil)) (fCons (wB oLen (aCons (oVar 1) aNil)) fNil)))
  (sCons (sSet 2 (w2 vMul (oE (wLst (aCons (oE (wC (.int 0))) aNil))) (oE (wB oMax (aCons (oE (wC (.int 0))) (aCons (oE (w2 vAdd (oE (w2 vSub (oE (wB oLen (aCons (oVar 4) aNil))) (oVar 5))) (oE (wC (.int 1))))) aNil))))))
  (sCons (sFor (iRange3 (aCons (oE (w2 vSub (oE (wB oLen (aCons (oVar 4) aNil))) (oVar 5))) (aCons (oE (w1 vNeg (oE (wC (.int 1))))) (aCons (oE (w1 vNeg (oE (wC (.int 1))))) aNil)))) (gNm 3)
  (sCons (sSet 6 (w2 vIx (oVar 4) (oE (w2 vSub (oE (w2 vAdd (oVar 3) (oVar 5))) (oE (wC (.int 1)))))))
  (sCons (sAsg (wVar 6) (gSubN 2 (wVar 3)))
  (sCons (sIf (tV (w2 vNe (oVar 6) (oE (wC (.int 0)))))
  (sCons (sFor (iEnum1 (aCons (oE (wVar 1)) aNil)) (gTp 2 (gsCons (gNm 7) (gsCons (gNm 8) gsNil)))
  (sCons (sAsg (w2 vSub (oE (w2 vIx (oVar 4) (oE (w2 vAdd (oVar 3) (oVar 7))))) (oE (w2 vMul (oVar 6) (oVar 8)))) (gSubN 4 (w2 vAdd (oVar 3) (oVar 7))))
  sNil))
  sNil)
  sNil)
  sNil))))
  (sCons (sRet (wTup (aCons (oE (wVar 2)) (aCons (oE (wSl (oVar 4) pNone (pSome (w2 vSub (oVar 5) (oE (wC (.int 1))))))) aNil))))
  sNil))))
/-- prime_parts(number, found, left, divisor) -/
def b_prime_parts : WS := (sCons (sPar [1, 2, 3] (fCons (wLst aNil) (fCons (wVar 0) (fCons (wC (.int 2)) fNil))))
  (sCons (sWhile (tV (w2 vGt (oVar 2) (oE (wC (.int 1)))))
  (sCons (sIf (tV (w2 vEq (oE (w2 vMod (oVar 2) (oVar 3))) (oE (wC (.int 0)))))
  (sCons (sDrop (wApp 1 (wVar 3)))
  (sCons (sWhile (tV (w2 vEq (oE (w2 vMod (oVar 2) (oVar 3))) (oE (wC (.int 0)))))
  (sCons (sSet 2 (w2 vDiv (oVar 2) (oVar 3)))
  sNil))
  sNil))
  sNil)
  (sCons (sSet 3 (w2 vAdd (oVar 3) (oE (wC (.int 1)))))
  sNil)))
  (sCons (sRetV 1)
  sNil)))
/-- times_less_one(poly, power, one, two) -/
def b_times_less_one : WS := (sCons (sRet (wLc (iZip2 (aCons (oE (w2 vAdd (oE (w2 vMul (oE (wLst (aCons (oE (wC (.int 0))) aNil))) (oVar 1))) (oE (wB oList (aCons (oVar 0) aNil))))) (aCons (oE (w2 vAdd (oE (wB oList (aCons (oVar 0) aNil))) (oE (w2 vMul (oE (wLst (aCons (oE (wC (.int 0))) aNil))) (oVar 1))))) aNil))) (gTp 2 (gsCons (gNm 2) (gsCons (gNm 3) gsNil))) tTrue (w2 vSub (oVar 2) (oVar 3)) [2, 3]))
  sNil)
/-- by_less_one(poly, power, found, place) -/
def b_by_less_one : WS := (sCons (sSet 2 (wB oList (aCons (oVar 0) aNil)))
  (sCons (sFor (iRange3 (aCons (oE (w2 vSub (oE (wB oLen (aCons (oVar 2) aNil))) (oE (wC (.int 1))))) (aCons (oE (w2 vSub (oVar 1) (oE (wC (.int 1))))) (aCons (oE (w1 vNeg (oE (wC (.int 1))))) aNil)))) (gNm 3)
  (sCons (sAsg (w2 vAdd (oE (w2 vIx (oVar 2) (oE (w2 vSub (oVar 3) (oVar 1))))) (oE (w2 vIx (oVar 2) (oVar 3)))) (gSubN 2 (w2 vSub (oVar 3) (oVar 1))))
  sNil))
  (sCons (sRet (wSl (oVar 2) (pSome (wVar 1)) pNone))
  sNil)))
/-- polynomial_of_order(order, prime, found, power, above, below, more, number) -/
def b_polynomial_of_order : WS := (sCons (sPar [4, 5] (fCons (wLst (aCons (oE (wVar 0)) aNil)) (fCons (wLst aNil) fNil)))
  (sCons (sFor (iSeq (wCall 1 [] fs_prime_parts (aCons (oE (wVar 0)) aNil))) (gNm 1)
  (sCons (sSet 6 (wLc (iSeq (wVar 5)) (gNm 7) tTrue (w2 vDiv (oVar 7) (oVar 1)) [7]))
  (sCons (sSet 5 (w2 vAdd (oVar 5) (oE (wLc (iSeq (wVar 4)) (gNm 7) tTrue (w2 vDiv (oVar 7) (oVar 1)) [7]))))
  (sCons (sSet 4 (w2 vAdd (oVar 4) (oVar 6)))
  sNil))))
  (sCons (sSet 2 (wLst (aCons (oE (wC (.int 1))) aNil)))
  (sCons (sFor (iSeq (wVar 4)) (gNm 3)
  (sCons (sSet 2 (wCall 2 [] fs_times_less_one (aCons (oE (wVar 2)) (aCons (oE (wVar 3)) aNil))))
  sNil))
  (sCons (sFor (iSeq (wVar 5)) (gNm 3)
  (sCons (sSet 2 (wCall 2 [] fs_by_less_one (aCons (oE (wVar 2)) (aCons (oE (wVar 3)) aNil))))
  sNil))
  (sCons (sRetV 2)
  sNil))))))
/-- folded_round(numbers, order, found, place, number) -/
def b_folded_round : WS := (sCons (sSet 2 (w2 vMul (oE (wLst (aCons (oE (wC (.int 0))) aNil))) (oVar 1)))
  (sCons (sFor (iEnum1 (aCons (oE (wVar 0)) aNil)) (gTp 2 (gsCons (gNm 3) (gsCons (gNm 4) gsNil)))
  (sCons (sAsg (w2 vAdd (oE (w2 vIx (oVar 2) (oE (w2 vMod (oVar 3) (oVar 1))))) (oVar 4)) (gSubN 2 (w2 vMod (oVar 3) (oVar 1))))
  sNil))
  (sCons (sRetV 2)
  sNil)))
/-- reduced(numbers, order, poly, left, found) -/
def b_reduced : WS := (sCons (sSet 2 (wCall 1 [] fs_polynomial_of_order (aCons (oE (wVar 1)) aNil)))
  (sCons (sSet 3 (wCall 2 [] fs_folded_round (aCons (oE (wVar 0)) (aCons (oE (wVar 1)) aNil))))
  (sCons (sSet 4 (wIf (tV (w2 vGe (oE (wB oLen (aCons (oVar 3) aNil))) (oE (wB oLen (aCons (oVar 2) aNil))))) (w2 vIx (oE (wCall 2 [] fs_poly_parted (aCons (oE (wVar 3)) (aCons (oE (wVar 2)) aNil)))) (oE (wC (.int 1)))) (wVar 3)))
  (sCons (sRet (wB oTuple (aCons (oE (w2 vAdd (oVar 4) (oE (w2 vMul (oE (wLst (aCons (oE (wC (.int 0))) aNil))) (oE (w2 vSub (oE (w2 vSub (oE (wB oLen (aCons (oVar 2) aNil))) (oE (wC (.int 1))))) (oE (wB oLen (aCons (oVar 4) aNil))))))))) aNil)))
  sNil))))
/-- is_whole(value) -/
def b_is_whole : WS := (sCons (sRet (wAndV (wIsi .int (oVar 0)) (wNotV (wIsi .bool (oVar 0)))))
  sNil)
/-- is_between(value, low, high) -/
def b_is_between : WS := (sCons (sRet (wAndV (wCall 1 [] fs_is_whole (aCons (oE (wVar 0)) aNil)) (wAndV (w2 vLe (oVar 1) (oVar 0)) (w2 vLe (oVar 0) (oVar 2)))))
  sNil)
/-- are_wholes(value, many, number) -/
def b_are_wholes : WS := (sCons (sRet (wAndV (wIsi .tup (oVar 0)) (wAndV (w2 vEq (oE (wB oLen (aCons (oVar 0) aNil))) (oVar 1)) (wB oAll (aCons (oE (wLc (iSeq (wVar 0)) (gNm 2) tTrue (wCall 1 [] fs_is_whole (aCons (oE (wVar 2)) aNil)) [2])) aNil)))))
  sNil)
/-- made(order, numbers) -/
def b_made : WS := (sCons (sRet (wTup (aCons (oE (wVar 0)) (aCons (oE (wCall 2 [] fs_reduced (aCons (oE (wVar 1)) (aCons (oE (wVar 0)) aNil)))) aNil))))
  sNil)
/-- is_nothing(number, one) -/
def b_is_nothing : WS := (sCons (sRet (w2 vEq (oE (wLc (iSeq (w2 vIx (oVar 0) (oE (wC (.int 1))))) (gNm 1) (tV (w2 vNe (oVar 1) (oE (wC (.int 0))))) (wVar 1) [1])) (oE (wLst aNil))))
  sNil)
/-- is_slots(value) -/
def b_is_slots : WS := (sCons (sRet (wCall 3 [] fs_is_between (aCons (oE (wVar 0)) (aCons (oE (wC (.int 2))) (aCons (oE (wC (.int 60))) aNil)))))
  sNil)
/-- is_row(value) -/
def b_is_row : WS := (sCons (sRet (wAndV (wIsi .tup (oVar 0)) (wAndV (wCall 1 [] fs_is_slots (aCons (oE (wB oLen (aCons (oVar 0) aNil))) aNil)) (wCall 2 [] fs_are_wholes (aCons (oE (wVar 0)) (aCons (oE (wB oLen (aCons (oVar 0) aNil))) aNil))))))
  sNil)
/-- is_phase(value) -/
def b_is_phase : WS := (sCons (sRet (wAndV (wCall 1 [] fs_is_row (aCons (oE (wVar 0)) aNil)) (w2 vEq (oE (wB oSum (aCons (oVar 0) aNil))) (oE (wC (.int 0))))))
  sNil)
/-- check_winding(value, index, row) -/
def b_check_winding : WS := (sCons (sIf (tOrW (tNotW (tV (wIsi .tup (oVar 0)))) (tV (w2 vEq (oVar 0) (oE (wTup aNil)))))
  (sCons sNever
  sNil)
  sNil)
  (sCons (sFor (iEnum1 (aCons (oE (wVar 0)) aNil)) (gTp 2 (gsCons (gNm 1) (gsCons (gNm 2) gsNil)))
  (sCons (sIf (tOrW (tV (w2 vEq (oVar 1) (oE (wC (.int 6))))) (tOrW (tNotW (tV (wCall 1 [] fs_is_phase (aCons (oE (wVar 2)) aNil)))) (tV (w2 vNe (oE (wB oLen (aCons (oVar 2) aNil))) (oE (wB oLen (aCons (oE (w2 vIx (oVar 0) (oE (wC (.int 0))))) aNil)))))))
  (sCons sNever
  sNil)
  sNil)
  sNil))
  sNil))
/-- check_three(winding) -/
def b_check_three : WS := (sCons (sIf (tV (w2 vNe (oE (wB oLen (aCons (oVar 0) aNil))) (oE (wC (.int 3)))))
  (sCons sNever
  sNil)
  sNil)
  sNil)
/-- points_of(winding, one, two, three) -/
def b_points_of : WS := (sCons (sRet (wLc (iZip3 (aCons (oE (w2 vIx (oVar 0) (oE (wC (.int 0))))) (aCons (oE (w2 vIx (oVar 0) (oE (wC (.int 1))))) (aCons (oE (w2 vIx (oVar 0) (oE (wC (.int 2))))) aNil)))) (gTp 3 (gsCons (gNm 1) (gsCons (gNm 2) (gsCons (gNm 3) gsNil)))) tTrue (wTup (aCons (oE (w2 vSub (oVar 1) (oVar 2))) (aCons (oE (w2 vSub (oVar 3) (oVar 2))) aNil))) [1, 2, 3]))
  sNil)
/-- taken_by(points, harmonic, many, order, found, place, angle, first, second) -/
def b_taken_by : WS := (sCons (sSet 2 (wB oLen (aCons (oVar 0) aNil)))
  (sCons (sSet 3 (wIf (tV (w2 vEq (oE (w2 vMod (oVar 2) (oE (wC (.int 3))))) (oE (wC (.int 0))))) (wVar 2) (w2 vMul (oE (wC (.int 3))) (oVar 2))))
  (sCons (sSet 4 (w2 vMul (oE (wLst (aCons (oE (wC (.int 0))) aNil))) (oVar 3)))
  (sCons (sFor (iEnum1 (aCons (oE (wVar 0)) aNil)) (gTp 2 (gsCons (gNm 5) (gsCons (gTp 2 (gsCons (gNm 7) (gsCons (gNm 8) gsNil))) gsNil)))
  (sCons (sSet 6 (w2 vMod (oE (w2 vMul (oE (w2 vMul (oE (w2 vDiv (oVar 3) (oVar 2))) (oVar 1))) (oVar 5))) (oVar 3)))
  (sCons (sAsg (w2 vAdd (oE (w2 vIx (oVar 4) (oVar 6))) (oVar 7)) (gSubN 4 (wVar 6)))
  (sCons (sSet 6 (w2 vMod (oE (w2 vAdd (oVar 6) (oE (w2 vDiv (oVar 3) (oE (wC (.int 3))))))) (oVar 3)))
  (sCons (sAsg (w2 vAdd (oE (w2 vIx (oVar 4) (oVar 6))) (oVar 8)) (gSubN 4 (wVar 6)))
  sNil)))))
  (sCons (sRet (wCall 2 [] fs_made (aCons (oE (wVar 3)) (aCons (oE (wVar 4)) aNil))))
  sNil)))))
/-- wave_of(winding, harmonic) -/
def b_wave_of : WS := (sCons (sRet (wCall 2 [] fs_taken_by (aCons (oE (wCall 1 [] fs_points_of (aCons (oE (wVar 0)) aNil))) (aCons (oE (wVar 1)) aNil))))
  sNil)
/-- has_wave(winding, harmonic) -/
def b_has_wave : WS := (sCons (sRet (wNotV (wCall 1 [] fs_is_nothing (aCons (oE (wCall 2 [] fs_wave_of (aCons (oE (wVar 0)) (aCons (oE (wVar 1)) aNil)))) aNil))))
  sNil)
/-- waves_of(winding, harmonic) -/
def b_waves_of : WS := (sCons (sRet (wLc (iRange1 (aCons (oE (wB oLen (aCons (oE (w2 vIx (oVar 0) (oE (wC (.int 0))))) aNil))) aNil)) (gNm 1) (tV (wCall 2 [] fs_has_wave (aCons (oE (wVar 0)) (aCons (oE (wVar 1)) aNil)))) (wVar 1) [1]))
  sNil)
/-- check_pairs(value) -/
def b_check_pairs : WS := (sCons (sIf (tNotW (tV (wCall 3 [] fs_is_between (aCons (oE (wVar 0)) (aCons (oE (wC (.int 1))) (aCons (oE (wC (.int 60))) aNil))))))
  (sCons sNever
  sNil)
  sNil)
  sNil)
/-- check_rotor(winding, pairs) -/
def b_check_rotor : WS := (sCons (sDrop (wCall 1 [] fs_check_winding (aCons (oE (wVar 0)) aNil)))
  (sCons (sDrop (wCall 1 [] fs_check_pairs (aCons (oE (wVar 1)) aNil)))
  (sCons (sDrop (wCall 1 [] fs_check_three (aCons (oE (wVar 0)) aNil)))
  sNil)))
/-- divisor_for(winding, pairs) -/
def b_divisor_for : WS := (sCons (sRet (wB oGcd (aCons (oE (w2 vMul (oE (wC (.int 2))) (oVar 1))) (aCons (oE (wB oLen (aCons (oE (w2 vIx (oVar 0) (oE (wC (.int 0))))) aNil))) aNil))))
  sNil)
/-- lobes_mixed(winding, pairs, harmonic, divisor, found) -/
def b_lobes_mixed : WS := (sCons (sPar [3, 4] (fCons (wCall 2 [] fs_divisor_for (aCons (oE (wVar 0)) (aCons (oE (wVar 1)) aNil))) (fCons (wLst aNil) fNil)))
  (sCons (sFor (iSeq (wCall 1 [] fs_waves_of (aCons (oE (wVar 0)) aNil))) (gNm 2)
  (sCons (sDrop (wExt 4 (oE (wLst (aCons (oE (w2 vMod (oE (w2 vSub (oVar 1) (oVar 2))) (oVar 3))) (aCons (oE (w2 vMod (oE (w2 vSub (oVar 2) (oVar 1))) (oVar 3))) aNil))))))
  sNil))
  (sCons (sRet (wSorSet (oVar 4)))
  sNil)))
/-- ripples_at(winding, pairs, many) -/
def b_ripples_at : WS := (sCons (sRet (wOrV (wCall 2 [] fs_has_wave (aCons (oE (wVar 0)) (aCons (oE (w2 vAdd (oVar 1) (oE (w2 vMul (oE (w2 vMul (oE (wC (.int 2))) (oVar 2))) (oVar 1))))) aNil))) (wCall 2 [] fs_has_wave (aCons (oE (wVar 0)) (aCons (oE (w2 vSub (oVar 1) (oE (w2 vMul (oE (w2 vMul (oE (wC (.int 2))) (oVar 2))) (oVar 1))))) aNil)))))
  sNil)
/-- mixed_lobes(winding, pairs) -/
def b_mixed_lobes : WS := (sCons (sDrop (wCall 2 [] fs_check_rotor (aCons (oE (wVar 0)) (aCons (oE (wVar 1)) aNil))))
  (sCons (sRet (wTup (aCons (oE (wCall 2 [] fs_divisor_for (aCons (oE (wVar 0)) (aCons (oE (wVar 1)) aNil)))) (aCons (oE (wB oTuple (aCons (oE (wCall 2 [] fs_lobes_mixed (aCons (oE (wVar 0)) (aCons (oE (wVar 1)) aNil)))) aNil))) aNil))))
  sNil))
/-- mixed_pulls(winding, pairs) -/
def b_mixed_pulls : WS := (sCons (sDrop (wCall 2 [] fs_check_rotor (aCons (oE (wVar 0)) (aCons (oE (wVar 1)) aNil))))
  (sCons (sRet (w2 (vIn false) (oE (w2 vMod (oE (wC (.int 1))) (oE (wCall 2 [] fs_divisor_for (aCons (oE (wVar 0)) (aCons (oE (wVar 1)) aNil)))))) (oE (wCall 2 [] fs_lobes_mixed (aCons (oE (wVar 0)) (aCons (oE (wVar 1)) aNil))))))
  sNil))
/-- is_ripple(winding, pairs, many) -/
def b_is_ripple : WS := (sCons (sDrop (wCall 1 [] fs_check_winding (aCons (oE (wVar 0)) aNil)))
  (sCons (sDrop (wCall 1 [] fs_check_pairs (aCons (oE (wVar 1)) aNil)))
  (sCons (sIf (tOrW (tNotW (tV (wCall 1 [] fs_is_whole (aCons (oE (wVar 2)) aNil)))) (tV (w2 vLt (oVar 2) (oE (wC (.int 0))))))
  (sCons sNever
  sNil)
  sNil)
  (sCons (sDrop (wCall 1 [] fs_check_three (aCons (oE (wVar 0)) aNil)))
  (sCons (sRet (wCall 3 [] fs_ripples_at (aCons (oE (wVar 0)) (aCons (oE (wVar 1)) (aCons (oE (wVar 2)) aNil)))))
  sNil)))))
/-- ripples(winding, pairs, many, index) -/
def b_ripples : WS := (sCons (sDrop (wCall 2 [] fs_check_rotor (aCons (oE (wVar 0)) (aCons (oE (wVar 1)) aNil))))
  (sCons (sSet 2 (w2 vDiv (oE (wB oLen (aCons (oE (w2 vIx (oVar 0) (oE (wC (.int 0))))) aNil))) (oE (wCall 2 [] fs_divisor_for (aCons (oE (wVar 0)) (aCons (oE (wVar 1)) aNil))))))
  (sCons (sRet (wTup (aCons (oE (wVar 2)) (aCons (oE (wB oTuple (aCons (oE (wLc (iRange1 (aCons (oVar 2) aNil)) (gNm 3) (tV (wCall 3 [] fs_ripples_at (aCons (oE (wVar 0)) (aCons (oE (wVar 1)) (aCons (oE (wVar 3)) aNil))))) (wVar 3) [3])) aNil))) aNil))))
  sNil)))
/-- least_ripple(winding, pairs, many) -/
def b_least_ripple : WS := (sCons (sDrop (wCall 2 [] fs_check_rotor (aCons (oE (wVar 0)) (aCons (oE (wVar 1)) aNil))))
  (sCons (sFor (iRange2 (aCons (oE (wC (.int 1))) (aCons (oE (w2 vAdd (oE (w2 vDiv (oE (wB oLen (aCons (oE (w2 vIx (oVar 0) (oE (wC (.int 0))))) aNil))) (oE (wCall 2 [] fs_divisor_for (aCons (oE (wVar 0)) (aCons (oE (wVar 1)) aNil)))))) (oE (wC (.int 1))))) aNil))) (gNm 2)
  (sCons (sIf (tV (wCall 3 [] fs_ripples_at (aCons (oE (wVar 0)) (aCons (oE (wVar 1)) (aCons (oE (wVar 2)) aNil)))))
  (sCons (sRetV 2)
  sNil)
  sNil)
  sNil))
  (sCons (sRet (wC .non))
  sNil)))
/-- _law_urn(script, turn, own, stirred, cell, seed) -/
def b_law_urn : WS := (sCons (sSet 2 (wIf (tV (w2 vLt (oVar 1) (oE (wB oLen (aCons (oVar 0) aNil))))) (wB oInt (aCons (oE (w2 vIx (oVar 0) (oVar 1))) aNil)) (w2 vAdd (oE (w2 vMul (oE (wC (.int 613))) (oVar 1))) (oE (wC (.int 211))))))
  (sCons (sSet 3 (w2 vAdd (oE (wC (.int 153571))) (oE (w2 vMul (oE (wC (.int 6007))) (oVar 1)))))
  (sCons (sFor (iSeq (wSl (oVar 0) pNone (pSome (wC (.int 8))))) (gNm 4)
  (sCons (sSet 3 (w2 vMod (oE (wB oInt (aCons (oE (w2 vAdd (oE (w2 vAdd (oE (w2 vMul (oVar 3) (oE (wC (.int 48889))))) (oE (w2 vMod (oE (wB oInt (aCons (oVar 4) aNil))) (oE (wC (.int 2147483563))))))) (oE (wC (.int 19))))) aNil))) (oE (wC (.int 2147483647)))))
  sNil))
  (sCons (sSet 5 (w2 vMod (oE (wB oInt (aCons (oE (w2 vAdd (oE (w2 vMul (oVar 3) (oE (wC (.int 101))))) (oE (w2 vMul (oE (w2 vMod (oE (wB oInt (aCons (oVar 2) aNil))) (oE (wC (.int 2147483563))))) (oE (wC (.int 40507))))))) aNil))) (oE (wC (.int 2147483647)))))
  (sCons (sRet (wLst (aCons (oE (wIf (tOrW (tV (w2 vLt (oVar 2) (oE (wC (.int 0))))) (tV (w2 vGe (oVar 2) (oE (w2 vPow (oE (wC (.int 10))) (oE (wC (.int 17)))))))) (wB oAbs (aCons (oVar 2) aNil)) (wC (.int 0)))) (aCons (oE (wVar 5)) (aCons (oE (wC (.int 0))) aNil)))))
  sNil)))))
/-- _law_draw(urn, many, figure) -/
def b_law_draw : WS := (sCons (sIf (tV (w2 vGt (oE (w2 vIx (oVar 0) (oE (wC (.int 0))))) (oE (wC (.int 0)))))
  (sCons (sAsg (wB oDivmod (aCons (oE (w2 vIx (oVar 0) (oE (wC (.int 0))))) (aCons (oVar 1) aNil))) (gTp 2 (gsCons (gSubN 0 (wC (.int 0))) (gsCons (gNm 2) gsNil))))
  (sCons (sRetV 2)
  sNil))
  sNil)
  (sCons (sAsg (w2 vAdd (oE (w2 vIx (oVar 0) (oE (wC (.int 2))))) (oE (wC (.int 1)))) (gSubN 0 (wC (.int 2))))
  (sCons (sAsg (w2 vMod (oE (wB oInt (aCons (oE (w2 vAdd (oE (w2 vAdd (oE (w2 vMul (oE (w2 vIx (oVar 0) (oE (wC (.int 1))))) (oE (wC (.int 48271))))) (oE (w2 vMul (oE (w2 vIx (oVar 0) (oE (wC (.int 2))))) (oE (wC (.int 69621))))))) (oE (wC (.int 7))))) aNil))) (oE (wC (.int 2147483647)))) (gSubN 0 (wC (.int 1))))
  (sCons (sRet (w2 vMod (oE (wB oInt (aCons (oE (w2 vDiv (oE (w2 vMod (oE (wB oInt (aCons (oE (w2 vMul (oE (w2 vIx (oVar 0) (oE (wC (.int 1))))) (oE (w2 vAdd (oE (w2 vMod (oE (wB oInt (aCons (oE (w2 vIx (oVar 0) (oE (wC (.int 1))))) aNil))) (oE (wC (.int 10007))))) (oE (wC (.int 30011))))))) aNil))) (oE (wC (.int 2147483629))))) (oE (wC (.int 211))))) aNil))) (oVar 1)))
  sNil))))
/-- _law_pick(urn, some) -/
def b_law_pick : WS := (sCons (sRet (w2 vIx (oVar 1) (oE (wCall 2 [0] fs_law_draw (aCons (oVar 0) (aCons (oE (wB oLen (aCons (oVar 1) aNil))) aNil))))))
  sNil)
/-- _law_turns(urn, turns, far) -/
def b_law_turns : WS := (sCons (sSet 1 (wCall 2 [0] fs_law_pick (aCons (oVar 0) (aCons (oE (wLst (aCons (oE (wC (.int 1))) (aCons (oE (w1 vNeg (oE (wC (.int 1))))) (aCons (oE (wC (.int 2))) (aCons (oE (w1 vNeg (oE (wC (.int 2))))) (aCons (oE (wC (.int 3))) (aCons (oE (w1 vNeg (oE (wC (.int 5))))) aNil)))))))) aNil))))
  (sCons (sIf (tV (w2 vEq (oE (wCall 2 [0] fs_law_draw (aCons (oVar 0) (aCons (oE (wC (.int 14))) aNil)))) (oE (wC (.int 5)))))
  (sCons (sSet 2 (wCall 2 [0] fs_law_draw (aCons (oVar 0) (aCons (oE (w2 vPow (oE (wC (.int 10))) (oE (wC (.int 6))))) aNil))))
  (sCons (sSet 1 (w2 vMul (oVar 1) (oE (w2 vAdd (oE (w2 vAdd (oE (w2 vPow (oE (wC (.int 10))) (oE (wC (.int 14))))) (oE (w2 vMul (oVar 2) (oE (w2 vPow (oE (wC (.int 10))) (oE (wC (.int 6))))))))) (oE (wCall 2 [0] fs_law_draw (aCons (oVar 0) (aCons (oE (w2 vPow (oE (wC (.int 10))) (oE (wC (.int 6))))) aNil))))))))
  sNil))
  sNil)
  (sCons (sRetV 1)
  sNil)))
/-- _law_wired(urn, slots, least, most, row, turn, far, at, steps, turns) -/
def b_law_wired : WS := (sCons (sSet 4 (w2 vMul (oE (wLst (aCons (oE (wC (.int 0))) aNil))) (oVar 1)))
  (sCons (sFor (iRange1 (aCons (oE (w2 vAdd (oVar 2) (oE (wCall 2 [0] fs_law_draw (aCons (oVar 0) (aCons (oE (w2 vSub (oE (w2 vAdd (oVar 3) (oE (wC (.int 1))))) (oVar 2))) aNil)))))) aNil)) (gNm 5)
  (sCons (sPar [7, 8, 9] (fCons (wCall 2 [0] fs_law_draw (aCons (oVar 0) (aCons (oE (wVar 1)) aNil))) (fCons (w2 vAdd (oE (wC (.int 1))) (oE (wCall 2 [0] fs_law_draw (aCons (oVar 0) (aCons (oE (w2 vSub (oVar 1) (oE (wC (.int 1))))) aNil))))) (fCons (wCall 1 [0] fs_law_turns (aCons (oVar 0) aNil)) fNil))))
  (sCons (sSet 6 (w2 vMod (oE (wB oInt (aCons (oE (w2 vAdd (oVar 7) (oVar 8))) aNil))) (oVar 1)))
  (sCons (sAsg (w2 vAdd (oE (w2 vIx (oVar 4) (oVar 7))) (oVar 9)) (gSubN 4 (wVar 7)))
  (sCons (sAsg (w2 vSub (oE (w2 vIx (oVar 4) (oVar 6))) (oVar 9)) (gSubN 4 (wVar 6)))
  sNil)))))
  (sCons (sRetV 4)
  sNil)))
/-- _law_points(winding, one, two, three) -/
def b_law_points : WS := (sCons (sRet (wLc (iZip3 (aCons (oE (w2 vIx (oVar 0) (oE (wC (.int 0))))) (aCons (oE (w2 vIx (oVar 0) (oE (wC (.int 1))))) (aCons (oE (w2 vIx (oVar 0) (oE (wC (.int 2))))) aNil)))) (gTp 3 (gsCons (gNm 1) (gsCons (gNm 2) (gsCons (gNm 3) gsNil)))) tTrue (wTup (aCons (oE (w2 vSub (oVar 1) (oVar 2))) (aCons (oE (w2 vSub (oVar 3) (oVar 2))) aNil))) [1, 2, 3]))
  sNil)
/-- _law_sixths(point, many, found, turn) -/
def b_law_sixths : WS := (sCons (sSet 2 (wVar 0))
  (sCons (sFor (iRange1 (aCons (oE (w2 vMod (oE (wB oInt (aCons (oVar 1) aNil))) (oE (wC (.int 6))))) aNil)) (gNm 3)
  (sCons (sSet 2 (wTup (aCons (oE (w2 vSub (oE (w2 vIx (oVar 2) (oE (wC (.int 0))))) (oE (w2 vIx (oVar 2) (oE (wC (.int 1))))))) (aCons (oE (w2 vIx (oVar 2) (oE (wC (.int 0))))) aNil))))
  sNil))
  (sCons (sRetV 2)
  sNil)))
/-- _law_spread(urn, points, base, one, point, number) -/
def b_law_spread : WS := (sCons (sSet 2 (wCall 4 [0] fs_law_wired (aCons (oVar 0) (aCons (oE (wB oLen (aCons (oVar 1) aNil))) (aCons (oE (wC (.int 0))) (aCons (oE (wC (.int 2))) aNil))))))
  (sCons (sSet 3 (wB oTuple (aCons (oE (wLc (iZip2 (aCons (oE (wVar 1)) (aCons (oE (wVar 2)) aNil))) (gTp 2 (gsCons (gNm 4) (gsCons (gNm 5) gsNil))) tTrue (w2 vAdd (oE (w2 vIx (oVar 4) (oE (wC (.int 0))))) (oVar 5)) [4, 5])) aNil)))
  (sCons (sRet (wTup (aCons (oE (wVar 3)) (aCons (oE (wB oTuple (aCons (oVar 2) aNil))) (aCons (oE (wB oTuple (aCons (oE (wLc (iZip2 (aCons (oE (wVar 1)) (aCons (oE (wVar 2)) aNil))) (gTp 2 (gsCons (gNm 4) (gsCons (gNm 5) gsNil))) tTrue (w2 vAdd (oE (w2 vIx (oVar 4) (oE (wC (.int 1))))) (oVar 5)) [4, 5])) aNil))) aNil)))))
  sNil)))
/-- _law_repeated(urn, slots, turned, many, sixths, first, turn, found, one, two, each, point) -/
def b_law_repeated : WS := (sCons (sSet 2 (wOrV (w2 vEq (oE (w2 vMod (oE (wB oInt (aCons (oVar 1) aNil))) (oE (wC (.int 2))))) (oE (wC (.int 0)))) (w2 vEq (oE (w2 vMod (oE (wB oInt (aCons (oVar 1) aNil))) (oE (wC (.int 3))))) (oE (wC (.int 0))))))
  (sCons (sSet 3 (wCall 2 [0] fs_law_pick (aCons (oVar 0) (aCons (oE (wLc (iRange2 (aCons (oE (wC (.int 1))) (aCons (oE (w2 vAdd (oVar 1) (oE (wB oInt (aCons (oVar 2) aNil))))) aNil))) (gNm 10) (tV (w2 vEq (oE (w2 vMod (oE (wB oInt (aCons (oVar 1) aNil))) (oVar 10))) (oE (wC (.int 0))))) (wVar 10) [10])) aNil))))
  (sCons (sSet 4 (wCall 2 [0] fs_law_pick (aCons (oVar 0) (aCons (oE (wLc (iRange2 (aCons (oE (wB oInt (aCons (oE (w2 vEq (oVar 3) (oVar 1))) aNil))) (aCons (oE (wC (.int 6))) aNil))) (gNm 10) (tV (w2 vEq (oE (w2 vMod (oE (wB oInt (aCons (oE (w2 vMul (oVar 10) (oVar 3))) aNil))) (oE (wC (.int 6))))) (oE (wC (.int 0))))) (wVar 10) [10])) aNil))))
  (sCons (sSet 5 (wLst aNil))
  (sCons (sFor (iRange1 (aCons (oE (w2 vDiv (oVar 1) (oVar 3))) aNil)) (gNm 6)
  (sCons (sSet 8 (w2 vSub (oE (wCall 2 [0] fs_law_draw (aCons (oVar 0) (aCons (oE (wC (.int 5))) aNil)))) (oE (wC (.int 2)))))
  (sCons (sDrop (wApp 5 (wTup (aCons (oE (wVar 8)) (aCons (oE (w2 vSub (oE (wCall 2 [0] fs_law_draw (aCons (oVar 0) (aCons (oE (wC (.int 5))) aNil)))) (oE (wC (.int 2))))) aNil)))))
  sNil)))
  (sCons (sIf (tV (w2 vEq (oVar 4) (oE (wC (.int 0)))))
  (sCons (sPar [8, 9] (fCons (wB oSum (aCons (oE (wBor 5 (wLc (iSeq (wVar 5)) (gNm 11) tTrue (w2 vIx (oVar 11) (oE (wC (.int 0)))) [11]))) aNil)) (fCons (wB oSum (aCons (oE (wBor 5 (wLc (iSeq (wVar 5)) (gNm 11) tTrue (w2 vIx (oVar 11) (oE (wC (.int 1)))) [11]))) aNil)) fNil)))
  (sCons (sAsg (wTup (aCons (oE (w2 vSub (oE (w2 vIx (oE (w2 vIx (oVar 5) (oE (wC (.int 0))))) (oE (wC (.int 0))))) (oVar 8))) (aCons (oE (w2 vSub (oE (w2 vIx (oE (w2 vIx (oVar 5) (oE (wC (.int 0))))) (oE (wC (.int 1))))) (oVar 9))) aNil))) (gSubN 5 (wC (.int 0))))
  sNil))
  sNil)
  (sCons (sSet 7 (wLst aNil))
  (sCons (sFor (iRange1 (aCons (oVar 3) aNil)) (gNm 6)
  (sCons (sSet 7 (w2 vAdd (oVar 7) (oE (wLc (iSeq (wVar 5)) (gNm 11) tTrue (wCall 2 [] fs_law_sixths (aCons (oE (wVar 11)) (aCons (oE (w2 vMul (oVar 4) (oVar 6))) aNil))) [11]))))
  sNil))
  (sCons (sRetV 7)
  sNil)))))))))
/-- _law_mirrored(urn, points, found, k, at, sixths, slots, far, one, two) -/
def b_law_mirrored : WS := (sCons (sPar [4, 5, 6] (fCons (wCall 2 [0] fs_law_draw (aCons (oVar 0) (aCons (oE (wB oLen (aCons (oVar 1) aNil))) aNil))) (fCons (wCall 2 [0] fs_law_draw (aCons (oVar 0) (aCons (oE (wC (.int 6))) aNil))) (fCons (wB oLen (aCons (oVar 1) aNil)) fNil))))
  (sCons (sSet 2 (wLst aNil))
  (sCons (sFor (iRange1 (aCons (oVar 6) aNil)) (gNm 3)
  (sCons (sAsg (w2 vIx (oVar 1) (oE (w2 vSub (oVar 4) (oVar 3)))) (gTp 2 (gsCons (gNm 8) (gsCons (gNm 9) gsNil))))
  (sCons (sSet 7 (wCall 2 [] fs_law_sixths (aCons (oE (wTup (aCons (oE (w2 vSub (oVar 8) (oVar 9))) (aCons (oE (w2 vSub (oE (wC (.int 0))) (oVar 9))) aNil)))) (aCons (oE (wVar 5)) aNil))))
  (sCons (sDrop (wApp 2 (wTup (aCons (oE (w2 vAdd (oE (w2 vIx (oE (w2 vIx (oVar 1) (oVar 3))) (oE (wC (.int 0))))) (oE (w2 vIx (oVar 7) (oE (wC (.int 0))))))) (aCons (oE (w2 vAdd (oE (w2 vIx (oE (w2 vIx (oVar 1) (oVar 3))) (oE (wC (.int 1))))) (oE (w2 vIx (oVar 7) (oE (wC (.int 1))))))) aNil)))))
  sNil))))
  (sCons (sRetV 2)
  sNil))))
/-- _law_belted(urn, slots, pairs, s, each) -/
def b_law_belted : WS := (sCons (sSet 2 (wCall 2 [0] fs_law_pick (aCons (oVar 0) (aCons (oE (wLc (iRange2 (aCons (oE (wC (.int 1))) (aCons (oE (w2 vAdd (oE (w2 vDiv (oVar 1) (oE (wC (.int 6))))) (oE (wC (.int 1))))) aNil))) (gNm 4) (tV (w2 vEq (oE (w2 vMod (oE (wB oInt (aCons (oVar 1) aNil))) (oE (w2 vMul (oE (wC (.int 6))) (oVar 4))))) (oE (wC (.int 0))))) (wVar 4) [4])) aNil))))
  (sCons (sRet (wLc (iRange1 (aCons (oVar 1) aNil)) (gNm 3) tTrue (wCall 2 [] fs_law_sixths (aCons (oE (wTup (aCons (oE (wC (.int 1))) (aCons (oE (wC (.int 0))) aNil)))) (aCons (oE (w2 vSub (oE (wC (.int 0))) (oE (w2 vDiv (oE (w2 vMul (oE (w2 vMul (oE (wC (.int 6))) (oVar 2))) (oVar 3))) (oVar 1))))) aNil))) [3]))
  sNil))
/-- _law_three(urn, slots, way, rows, two, points, row, none, turn, sign, phase, s) -/
def b_law_three : WS := (sCons (sSet 2 (wCall 2 [0] fs_law_draw (aCons (oVar 0) (aCons (oE (wC (.int 12))) aNil))))
  (sCons (sIf (tV (w2 vLt (oVar 2) (oE (wC (.int 3)))))
  (sCons (sSet 3 (wLc (iRange1 (aCons (oE (wC (.int 3))) aNil)) (gNm 10) tTrue (wCall 4 [0] fs_law_wired (aCons (oVar 0) (aCons (oE (wVar 1)) (aCons (oE (wC (.int 0))) (aCons (oE (wC (.int 3))) aNil))))) [10]))
  (sCons (sRet (wB oTuple (aCons (oE (wLc (iSeq (wVar 3)) (gNm 6) tTrue (wB oTuple (aCons (oVar 6) aNil)) [6])) aNil)))
  sNil))
  sNil)
  (sCons (sIf (tV (w2 vLt (oVar 2) (oE (wC (.int 5)))))
  (sCons (sPar [6, 8, 9] (fCons (wCall 4 [0] fs_law_wired (aCons (oVar 0) (aCons (oE (wVar 1)) (aCons (oE (wC (.int 1))) (aCons (oE (wC (.int 3))) aNil))))) (fCons (wCall 2 [0] fs_law_draw (aCons (oVar 0) (aCons (oE (wVar 1)) aNil))) (fCons (wCall 2 [0] fs_law_pick (aCons (oVar 0) (aCons (oE (wLst (aCons (oE (wC (.int 1))) (aCons (oE (w1 vNeg (oE (wC (.int 1))))) aNil)))) aNil))) fNil))))
  (sCons (sSet 4 (wLc (iRange1 (aCons (oVar 1) aNil)) (gNm 11) tTrue (w2 vMul (oVar 9) (oE (w2 vIx (oVar 6) (oE (w2 vSub (oVar 11) (oVar 8)))))) [11]))
  (sCons (sRet (wTup (aCons (oE (wB oTuple (aCons (oVar 6) aNil))) (aCons (oE (wB oTuple (aCons (oVar 4) aNil))) (aCons (oE (wB oTuple (aCons (oE (wLc (iRange1 (aCons (oVar 1) aNil)) (gNm 11) tTrue (w2 vMul (oVar 9) (oE (w2 vIx (oVar 4) (oE (w2 vSub (oVar 11) (oVar 8)))))) [11])) aNil))) aNil)))))
  sNil)))
  sNil)
  (sCons (sIf (tV (w2 vLt (oVar 2) (oE (wC (.int 9)))))
  (sCons (sSet 5 (wCall 2 [0] fs_law_repeated (aCons (oVar 0) (aCons (oE (wVar 1)) aNil))))
  (sCons (sRet (wCall 2 [0] fs_law_spread (aCons (oVar 0) (aCons (oE (wIf (tV (w2 vLt (oVar 2) (oE (wC (.int 7))))) (wVar 5) (wCall 2 [0] fs_law_mirrored (aCons (oVar 0) (aCons (oE (wVar 5)) aNil))))) aNil))))
  sNil))
  sNil)
  (sCons (sIf (tAndW (tV (w2 vEq (oVar 2) (oE (wC (.int 9))))) (tV (w2 vEq (oE (w2 vMod (oE (wB oInt (aCons (oVar 1) aNil))) (oE (wC (.int 6))))) (oE (wC (.int 0))))))
  (sCons (sRet (wCall 2 [0] fs_law_spread (aCons (oVar 0) (aCons (oE (wCall 2 [0] fs_law_belted (aCons (oVar 0) (aCons (oE (wVar 1)) aNil)))) aNil))))
  sNil)
  sNil)
  (sCons (sPar [6, 7] (fCons (wB oTuple (aCons (oE (wCall 4 [0] fs_law_wired (aCons (oVar 0) (aCons (oE (wVar 1)) (aCons (oE (wC (.int 1))) (aCons (oE (wC (.int 2))) aNil)))))) aNil)) (fCons (wB oTuple (aCons (oE (w2 vMul (oE (wLst (aCons (oE (wC (.int 0))) aNil))) (oVar 1))) aNil)) fNil)))
  (sCons (sRet (wIf (tV (w2 vEq (oVar 2) (oE (wC (.int 11))))) (wTup (aCons (oE (wVar 6)) (aCons (oE (wVar 6)) (aCons (oE (wVar 6)) aNil)))) (wTup (aCons (oE (wVar 7)) (aCons (oE (wVar 6)) (aCons (oE (wVar 7)) aNil))))))
  sNil)))))))
/-- _law_wave_row(points, harmonic, slots, order, row, s, at, far) -/
def b_law_wave_row : WS := (sCons (sSet 2 (wB oLen (aCons (oVar 0) aNil)))
  (sCons (sSet 3 (wIf (tV (w2 vEq (oE (w2 vMod (oE (wB oInt (aCons (oVar 2) aNil))) (oE (wC (.int 3))))) (oE (wC (.int 0))))) (wVar 2) (w2 vMul (oE (wC (.int 3))) (oVar 2))))
  (sCons (sSet 4 (w2 vMul (oE (wLst (aCons (oE (wC (.int 0))) aNil))) (oVar 3)))
  (sCons (sFor (iRange1 (aCons (oVar 2) aNil)) (gNm 5)
  (sCons (sSet 6 (w2 vMul (oE (w2 vMod (oE (wB oInt (aCons (oE (w2 vMul (oVar 1) (oVar 5))) aNil))) (oVar 2))) (oE (w2 vDiv (oVar 3) (oVar 2)))))
  (sCons (sSet 7 (w2 vMod (oE (wB oInt (aCons (oE (w2 vAdd (oVar 6) (oE (w2 vDiv (oVar 3) (oE (wC (.int 3))))))) aNil))) (oVar 3)))
  (sCons (sAsg (w2 vAdd (oE (w2 vIx (oVar 4) (oVar 6))) (oE (w2 vIx (oE (w2 vIx (oVar 0) (oVar 5))) (oE (wC (.int 0)))))) (gSubN 4 (wVar 6)))
  (sCons (sAsg (w2 vAdd (oE (w2 vIx (oVar 4) (oVar 7))) (oE (w2 vIx (oE (w2 vIx (oVar 0) (oVar 5))) (oE (wC (.int 1)))))) (gSubN 4 (wVar 7)))
  sNil)))))
  (sCons (sRetV 4)
  sNil)))))
/-- _law_is_nought(row, primes, prime, order, found, each, k, number, part) -/
def b_law_is_nought : WS := (sCons (sPar [3, 4] (fCons (wB oLen (aCons (oVar 0) aNil)) (fCons (wVar 0) fNil)))
  (sCons (sSet 1 (wLc (iRange2 (aCons (oE (wC (.int 2))) (aCons (oE (w2 vAdd (oVar 3) (oE (wC (.int 1))))) aNil))) (gNm 5) (tV (w2 vEq (oE (w2 vMod (oE (wB oInt (aCons (oVar 3) aNil))) (oVar 5))) (oE (wC (.int 0))))) (wVar 5) [5]))
  (sCons (sFor (iSeq (wLc (iSeq (wVar 1)) (gNm 5) (tV (w2 vEq (oE (wLc (iRange2 (aCons (oE (wC (.int 2))) (aCons (oVar 5) aNil))) (gNm 8) (tV (w2 vEq (oE (w2 vMod (oE (wB oInt (aCons (oVar 5) aNil))) (oVar 8))) (oE (wC (.int 0))))) (wVar 8) [8])) (oE (wLst aNil)))) (wVar 5) [5])) (gNm 2)
  (sCons (sSet 4 (wLc (iRange1 (aCons (oVar 3) aNil)) (gNm 6) tTrue (w2 vSub (oE (w2 vIx (oVar 4) (oVar 6))) (oE (w2 vIx (oVar 4) (oE (w2 vSub (oVar 6) (oE (w2 vDiv (oVar 3) (oVar 2)))))))) [6]))
  sNil))
  (sCons (sRet (w2 vEq (oE (wLc (iSeq (wVar 4)) (gNm 7) (tV (w2 vNe (oVar 7) (oE (wC (.int 0))))) (wVar 7) [7])) (oE (wLst aNil))))
  sNil))))
/-- _law_waves(points, h) -/
def b_law_waves : WS := (sCons (sRet (wLc (iRange1 (aCons (oE (wB oLen (aCons (oVar 0) aNil))) aNil)) (gNm 1) (tNotW (tV (wCall 1 [] fs_law_is_nought (aCons (oE (wCall 2 [] fs_law_wave_row (aCons (oE (wVar 0)) (aCons (oE (wVar 1)) aNil)))) aNil)))) (wVar 1) [1]))
  sNil)
/-- _law_is_ripple(some, slots, pairs, many, ahead, behind) -/
def b_law_is_ripple : WS := (sCons (sPar [4, 5] (fCons (w2 vAdd (oE (w2 vMul (oE (wC (.int 2))) (oVar 3))) (oE (wC (.int 1)))) (fCons (w2 vSub (oE (w2 vMul (oE (wC (.int 2))) (oVar 3))) (oE (wC (.int 1)))) fNil)))
  (sCons (sIf (tV (w2 (vIn false) (oE (w2 vMod (oE (wB oInt (aCons (oE (w2 vMul (oVar 4) (oVar 2))) aNil))) (oVar 1))) (oVar 0)))
  (sCons (sRet (wC (.bl true)))
  sNil)
  sNil)
  (sCons (sRet (wAndV (w2 vGt (oVar 5) (oE (wC (.int 0)))) (w2 (vIn false) (oE (w2 vMod (oE (wB oInt (aCons (oE (w2 vSub (oE (wC (.int 0))) (oE (w2 vMul (oVar 5) (oVar 2))))) aNil))) (oVar 1))) (oVar 0))))
  sNil)))
/-- _law_asked(urn, winding, slots, some, pairs, part, lobes, odd, due, pull, rest, row, least, k, many, h, each) -/
def b_law_asked : WS := (sCons (sSet 5 (wB oMax (aCons (oE (wLc (iRange2 (aCons (oE (wC (.int 1))) (aCons (oE (w2 vAdd (oVar 2) (oE (wC (.int 1))))) aNil))) (gNm 16) (tAndW (tV (w2 vEq (oE (w2 vMod (oE (wB oInt (aCons (oE (w2 vMul (oE (wC (.int 2))) (oVar 4))) aNil))) (oVar 16))) (oE (wC (.int 0))))) (tV (w2 vEq (oE (w2 vMod (oE (wB oInt (aCons (oVar 2) aNil))) (oVar 16))) (oE (wC (.int 0)))))) (wVar 16) [16])) aNil)))
  (sCons (sSet 6 (wLst aNil))
  (sCons (sFor (iSeq (wLst (aCons (oE (wC (.int 1))) (aCons (oE (wC (.int 3))) (aCons (oE (wC (.int 5))) (aCons (oE (wC (.int 7))) (aCons (oE (w1 vNeg (oE (wC (.int 1))))) (aCons (oE (w1 vNeg (oE (wC (.int 3))))) aNil)))))))) (gNm 7)
  (sCons (sFor (iSeq (wVar 3)) (gNm 15)
  (sCons (sSet 6 (w2 vAdd (oVar 6) (oE (wLst (aCons (oE (w2 vMod (oE (wB oInt (aCons (oE (w2 vSub (oE (w2 vMul (oVar 7) (oVar 4))) (oVar 15))) aNil))) (oVar 5))) (aCons (oE (w2 vMod (oE (wB oInt (aCons (oE (w2 vSub (oVar 15) (oE (w2 vMul (oVar 7) (oVar 4))))) aNil))) (oVar 5))) aNil))))))
  sNil))
  sNil))
  (sCons (sSet 8 (wTup (aCons (oE (wVar 5)) (aCons (oE (wB oTuple (aCons (oE (wSorSet (oVar 6))) aNil))) aNil))))
  (sCons (sIf (tV (w2 vNeS (oE (wB oRepr (aCons (oE (wLst (aCons (oE (wCall 2 [] fs_mixed_lobes (aCons (oE (wVar 1)) (aCons (oE (wVar 4)) aNil)))) (aCons (oE (wCall 2 [] fs_mixed_lobes (wPerm [1, 0] (aCons (oE (wVar 4)) (aCons (oE (wVar 1)) aNil))))) aNil)))) aNil))) (oE (wB oRepr (aCons (oE (wLst (aCons (oE (wVar 8)) (aCons (oE (wVar 8)) aNil)))) aNil)))))
  (sCons (sRet (wC (.bl false)))
  sNil)
  sNil)
  (sCons (sSet 9 (w2 (vIn false) (oE (w2 vMod (oE (wB oInt (aCons (oE (wC (.int 1))) aNil))) (oVar 5))) (oVar 6)))
  (sCons (sIf (tV (w2 vNeS (oE (wB oRepr (aCons (oE (wLst (aCons (oE (wCall 2 [] fs_mixed_pulls (aCons (oE (wVar 1)) (aCons (oE (wVar 4)) aNil)))) (aCons (oE (wCall 2 [] fs_mixed_pulls (wPerm [1, 0] (aCons (oE (wVar 4)) (aCons (oE (wVar 1)) aNil))))) aNil)))) aNil))) (oE (wB oRepr (aCons (oE (wLst (aCons (oE (wVar 9)) (aCons (oE (wVar 9)) aNil)))) aNil)))))
  (sCons (sRet (wC (.bl false)))
  sNil)
  sNil)
  (sCons (sSet 10 (w2 vDiv (oVar 2) (oVar 5)))
  (sCons (sSet 11 (wLc (iRange1 (aCons (oVar 10) aNil)) (gNm 13) (tV (wCall 4 [] fs_law_is_ripple (aCons (oE (wVar 3)) (aCons (oE (wVar 2)) (aCons (oE (wVar 4)) (aCons (oE (wVar 13)) aNil)))))) (wVar 13) [13]))
  (sCons (sSet 8 (wTup (aCons (oE (wVar 10)) (aCons (oE (wB oTuple (aCons (oVar 11) aNil))) aNil))))
  (sCons (sIf (tV (w2 vNeS (oE (wB oRepr (aCons (oE (wLst (aCons (oE (wCall 2 [] fs_ripples (aCons (oE (wVar 1)) (aCons (oE (wVar 4)) aNil)))) (aCons (oE (wCall 2 [] fs_ripples (wPerm [1, 0] (aCons (oE (wVar 4)) (aCons (oE (wVar 1)) aNil))))) aNil)))) aNil))) (oE (wB oRepr (aCons (oE (wLst (aCons (oE (wVar 8)) (aCons (oE (wVar 8)) aNil)))) aNil)))))
  (sCons (sRet (wC (.bl false)))
  sNil)
  sNil)
  (sCons (sSet 12 (wC .non))
  (sCons (sFor (iRange2 (aCons (oE (wC (.int 1))) (aCons (oE (w2 vAdd (oVar 10) (oE (wC (.int 1))))) aNil))) (gNm 13)
  (sCons (sIf (tAndW (tV (w2 (vIsN false) (oVar 12) (oE (wC .non)))) (tV (wCall 4 [] fs_law_is_ripple (aCons (oE (wVar 3)) (aCons (oE (wVar 2)) (aCons (oE (wVar 4)) (aCons (oE (wVar 13)) aNil)))))))
  (sCons (sSet 12 (wVar 13))
  sNil)
  sNil)
  sNil))
  (sCons (sIf (tV (w2 vNeS (oE (wB oRepr (aCons (oE (wLst (aCons (oE (wCall 2 [] fs_least_ripple (aCons (oE (wVar 1)) (aCons (oE (wVar 4)) aNil)))) (aCons (oE (wCall 2 [] fs_least_ripple (wPerm [1, 0] (aCons (oE (wVar 4)) (aCons (oE (wVar 1)) aNil))))) aNil)))) aNil))) (oE (wB oRepr (aCons (oE (wLst (aCons (oE (wVar 12)) (aCons (oE (wVar 12)) aNil)))) aNil)))))
  (sCons (sRet (wC (.bl false)))
  sNil)
  sNil)
  (sCons (sFor (iSeq (wLst (aCons (oE (wC (.int 0))) (aCons (oE (wCall 2 [0] fs_law_draw (aCons (oVar 0) (aCons (oE (w2 vMul (oE (wC (.int 3))) (oVar 2))) aNil)))) (aCons (oE (w2 vAdd (oE (w2 vPow (oE (wC (.int 10))) (oE (wC (.int 12))))) (oE (wCall 2 [0] fs_law_draw (aCons (oVar 0) (aCons (oE (w2 vPow (oE (wC (.int 10))) (oE (wC (.int 6))))) aNil)))))) aNil))))) (gNm 14)
  (sCons (sSet 8 (wCall 4 [] fs_law_is_ripple (aCons (oE (wVar 3)) (aCons (oE (wVar 2)) (aCons (oE (wVar 4)) (aCons (oE (wVar 14)) aNil))))))
  (sCons (sIf (tV (w2 vNeS (oE (wB oRepr (aCons (oE (wLst (aCons (oE (wCall 3 [] fs_is_ripple (aCons (oE (wVar 1)) (aCons (oE (wVar 4)) (aCons (oE (wVar 14)) aNil))))) (aCons (oE (wCall 3 [] fs_is_ripple (wPerm [2, 1, 0] (aCons (oE (wVar 14)) (aCons (oE (wVar 4)) (aCons (oE (wVar 1)) aNil)))))) aNil)))) aNil))) (oE (wB oRepr (aCons (oE (wLst (aCons (oE (wVar 8)) (aCons (oE (wVar 8)) aNil)))) aNil)))))
  (sCons (sRet (wC (.bl false)))
  sNil)
  sNil)
  sNil)))
  (sCons (sRet (wC (.bl true)))
  sNil))))))))))))))))
/-- _law_right(urn, slots, winding, some, pairs) -/
def b_law_right : WS := (sCons (sSet 1 (wCall 2 [0] fs_law_pick (aCons (oVar 0) (aCons (oE (wLst (aCons (oE (wC (.int 6))) (aCons (oE (wC (.int 4))) (aCons (oE (wC (.int 9))) (aCons (oE (wC (.int 3))) (aCons (oE (wC (.int 8))) (aCons (oE (wC (.int 5))) (aCons (oE (wC (.int 12))) (aCons (oE (wC (.int 2))) (aCons (oE (wC (.int 7))) (aCons (oE (wC (.int 10))) (aCons (oE (wC (.int 20))) aNil))))))))))))) aNil))))
  (sCons (sSet 2 (wCall 2 [0] fs_law_three (aCons (oVar 0) (aCons (oE (wVar 1)) aNil))))
  (sCons (sSet 3 (wCall 1 [] fs_law_waves (aCons (oE (wCall 1 [] fs_law_points (aCons (oE (wVar 2)) aNil))) aNil)))
  (sCons (sFor (iSeq (wLst (aCons (oE (w2 vAdd (oE (wC (.int 1))) (oE (wCall 2 [0] fs_law_draw (aCons (oVar 0) (aCons (oE (wC (.int 6))) aNil)))))) (aCons (oE (w2 vAdd (oE (wC (.int 1))) (oE (wCall 2 [0] fs_law_draw (aCons (oVar 0) (aCons (oE (wC (.int 60))) aNil)))))) aNil)))) (gNm 4)
  (sCons (sIf (tNotW (tV (wCall 5 [0] fs_law_asked (aCons (oVar 0) (aCons (oE (wVar 2)) (aCons (oE (wVar 1)) (aCons (oE (wVar 3)) (aCons (oE (wVar 4)) aNil))))))))
  (sCons (sRet (wC (.bl false)))
  sNil)
  sNil)
  sNil))
  (sCons (sRet (wC (.bl true)))
  sNil)))))
/-- law(script, turn) -/
def b_law0 : WS := (sCons (sRet (wB oAll (aCons (oE (wLc (iRange1 (aCons (oE (wB oMax (aCons (oE (wC (.int 2))) (aCons (oE (wB oMin (aCons (oE (wB oLen (aCons (oVar 0) aNil))) (aCons (oE (wC (.int 3))) aNil)))) aNil)))) aNil)) (gNm 1) tTrue (wCallT fs_law_right (wCall 2 [] fs_law_urn (aCons (oE (wVar 0)) (aCons (oE (wVar 1)) aNil)))) [1])) aNil)))
  sNil)
end K76

-- S1
namespace K76
open PySem PySem.Spec L2 VL PyProof.Rows
theorem sem_times_less_one : Sem 2 4 [] b_times_less_one fs_times_less_one := by
  rintro ds Qv hl ⟨p, k, rfl, hp, hk, q⟩
  unfold b_times_less_one
  walk_at "vs"
  simp only [Int.toNat_natCast, rep_flat, rep_ints, ← List.map_append, zp2_map, LN_eq, List.length_map, List.length_append, List.length_replicate]
  refine ⟨by omega, by omega, by omega, by omega, by omega, by omega, by omega, by omega, lc_mapT (fun a => .int (a.1 - a.2)) ?_ (fun a acc k _ hl hk => ?_) ?_⟩
  · simp [LN_eq]; omega
  · walk_at "vs"
    exact ⟨hl, hk⟩
  · simpa [tlo, li, Function.comp_def] using q
theorem range_get {n i a : Nat} (e : (List.range n)[i]? = some a) : a = i ∧ i < n := by
  obtain ⟨h, e⟩ := List.getElem?_eq_some_iff.mp e
  rw [List.getElem_range] at e
  exact ⟨e.symm, by simpa using h⟩
theorem foldl_len {α : Type} (g : List Int → α → List Int) (h : ∀ f a, (g f a).length = f.length) : ∀ (xs : List α) (f : List Int), (xs.foldl g f).length = f.length
  | [], _ => rfl
  | x :: xs, f => by rw [List.foldl_cons, foldl_len g h xs, h]
theorem foldl_range {β : Type} (g : β → Nat → β) (n : Nat) (f : β) : (List.range (n + 1)).foldl g f = g ((List.range n).foldl g f) n := by
  rw [List.range_succ, List.foldl_append]
  rfl
theorem set_int (f : List Int) (i : Nat) (v : Int) : (f.map D.int).set i (.int v) = (f.set i v).map D.int := by rw [List.map_set]
theorem bloStep_len (k : Nat) (f : List Int) (a : Nat) : (bloStep k f a).length = f.length := by simp [bloStep]
theorem cutL_drop {α : Type} {xs : List α} {k : Nat} (h : k ≤ xs.length) : cutL xs (some (k : Int)) none = xs.drop k := by
  unfold cutL
  have e1 : HT.sIx xs.length 0 (some (k : Int)) = k := by
    rw [HT.sIx_nat]
    omega
  have e2 : HT.sIx xs.length xs.length none = xs.length := rfl
  rw [e1, e2]
  exact List.take_of_length_le (by simp)
theorem cutL_take {α : Type} {xs : List α} {k : Nat} (h : k ≤ xs.length) : cutL xs none (some (k : Int)) = xs.take k := by
  unfold cutL
  have e1 : HT.sIx xs.length xs.length (some (k : Int)) = k := by
    rw [HT.sIx_nat]
    omega
  have e2 : HT.sIx xs.length 0 none = 0 := rfl
  rw [e1, e2]
  simp
theorem sem_by_less_one : Sem 2 4 [] b_by_less_one fs_by_less_one := by
  rintro ds Qv hl ⟨p, k, rfl, hp, hk1, hk, q⟩
  unfold b_by_less_one
  walk_at "vs"
  simp only [List.length_map]
  refine ⟨by unfold smallI; omega, by unfold smallI; omega, ?_⟩
  unfold rgD
  have hn : ((p.length : Int) - 1 - ((k : Int) - 1)).toNat = p.length - k := by omega
  rw [hn]
  refine loop_invT (fun i Γ => ∃ o, Γ = [.sh (li p), .sh (.int k), .ac (((List.range i).foldl (fun f j => bloStep k f (p.length - 1 - j)) p).map D.int), oS o]) ⟨none, rfl⟩ ?_ ?_
  · rintro i a Γ kk e ⟨o, rfl⟩ hk'
    obtain ⟨rfl, hi⟩ := range_get e
    have hlen : ((List.range a).foldl (fun f j => bloStep k f (p.length - 1 - j)) p).length = p.length := foldl_len _ (fun f j => bloStep_len _ _ _) _ _
    have e2 : (p.length : Int) - 1 + (a : Int) * -1 = ((p.length - 1 - a : Nat) : Int) := by omega
    rw [e2]
    walk_at "vs"
    refine optI_int (by omega) (by rw [hlen]; omega) ?_
    refine optI_int (by omega) (by rw [hlen]; omega) ?_
    refine onN_pos (by omega) (by rw [List.length_map, hlen]; omega) ?_
    rw [set_int]
    refine hk' _ ⟨some (.int ((p.length - 1 - a : Nat) : Int)), ?_⟩
    rw [foldl_range]
    have e3 : ((p.length - 1 - a : Nat) - (k : Int)).toNat = p.length - 1 - a - k := by omega
    simp only [bloStep, e3, Int.toNat_natCast]
    rfl
  · rintro Γ ⟨o, rfl⟩
    walk_at "vs"
    have hlen : ((List.range (List.range (p.length - k)).length).foldl (fun f j => bloStep k f (p.length - 1 - j)) p).length = p.length := foldl_len _ (fun f j => bloStep_len _ _ _) _ _
    rw [cutL_drop (by rw [List.length_map, hlen]; exact hk), ← List.map_drop]
    simpa [blo, li] using q
theorem sem_folded_round : Sem 2 5 [] b_folded_round fs_folded_round := by
  rintro ds Qv hl ⟨f, n, rfl, h1, h2, h3, q⟩
  unfold b_folded_round
  walk_at "vs"
  simp only [Int.toNat_natCast, rep_flat, rep_ints, LN_eq, enD_map]
  refine ⟨by omega, by omega, by omega, loop_invT (fun i Γ => ∃ o1 o2, Γ = [.sh (li f), .sh (.int n), .ac ((f.take i ++ List.replicate (n - i) 0).map D.int), oS o1, oS o2]) ⟨none, none, by simp; rfl⟩ ?_ ?_⟩
  · rintro i ⟨x, j⟩ Γ k e ⟨o1, o2, rfl⟩ hk
    have e2 : f[i]? = some x ∧ j = i := by
      rw [List.getElem?_zipIdx] at e
      cases z : f[i]? with
      | none => rw [z] at e; simp at e
      | some y => rw [z] at e; simp at e; simp [e]
    obtain ⟨e2, rfl⟩ := e2
    have hj : j < f.length := (List.getElem?_eq_some_iff.mp e2).1
    have hm : (j : Int) % (n : Int) = (j : Int) := Int.emod_eq_of_lt (by omega) (by omega)
    have hlen : (f.take j ++ List.replicate (n - j) 0).length = n := by simp; omega
    walk_at "vs"
    rw [hm]
    refine ⟨by omega, optI_int (by omega) (by rw [hlen]; omega) ?_⟩
    walk_at "vs"
    refine ⟨by omega, onN_pos (by omega) (by rw [List.length_map, hlen]; omega) ?_⟩
    rw [set_int]
    refine hk _ ⟨some (.int j), some (.int x), ?_⟩
    have e4 : (f.take j ++ List.replicate (n - j) 0).set j ((f.take j ++ List.replicate (n - j) 0).getD j 0 + x) = f.take (j + 1) ++ List.replicate (n - (j + 1)) 0 := by
      have h5 : n - j = (n - (j + 1)) + 1 := by omega
      have h6 : (f.take j).length = j := by simp; omega
      rw [h5, List.replicate_succ, List.take_add_one, e2]
      rw [List.getD_eq_getElem?_getD, List.getElem?_append_right (by omega), List.set_append_right _ _ (by omega)]
      simp [h6]
    simp only [Int.toNat_natCast, e4]
    rfl
  · rintro Γ ⟨o1, o2, rfl⟩
    walk_at "vs"
    have e : f.take f.zipIdx.length ++ List.replicate (n - f.zipIdx.length) 0 = f := by
      rw [List.length_zipIdx, List.take_length, h1, Nat.sub_self]
      simp
    rw [e]
    exact q
theorem subAt_len (st : Nat) (ld : Int) (o f : List Int) : (subAt st ld o f).length = f.length := by
  unfold subAt
  exact foldl_len _ (fun f a => by simp) _ _
theorem ppStep_len (o : List Int) (st : Nat) (f : List Int) : (ppStep o st f).length = f.length := by
  unfold ppStep
  split
  · rfl
  · exact subAt_len _ _ _ _
theorem zipIdx_get {α : Type} {f : List α} {i : Nat} {x : α} {j : Nat} (e : f.zipIdx[i]? = some (x, j)) : f[i]? = some x ∧ j = i := by
  rw [List.getElem?_zipIdx] at e
  cases z : f[i]? with
  | none => rw [z] at e; simp at e
  | some y => rw [z] at e; simp at e; simp [e]
theorem foldl_take {α β : Type} (g : β → α → β) (xs : List α) (b : β) {i : Nat} {x : α} (e : xs[i]? = some x) : (xs.take (i + 1)).foldl g b = g ((xs.take i).foldl g b) x := by
  rw [List.take_add_one, e, List.foldl_append]
  rfl
theorem sem_poly_parted : Sem 2 9 [] b_poly_parted fs_poly_parted := by
  rintro ds Qv hl ⟨l, o, rfl, h1, h2, h3, h4, q⟩
  unfold b_poly_parted
  walk_at "vs"
  simp only [List.length_map, LN_eq, rep_flat]
  have hm : (if (l.length : Int) - o.length + 1 > 0 then (l.length : Int) - o.length + 1 else 0) = ((l.length - o.length + 1 : Nat) : Int) := by
    rw [if_pos (by omega)]
    omega
  rw [hm]
  refine ⟨by omega, by omega, by omega, by unfold smallI; omega, by unfold smallI; omega, ?_⟩
  unfold rgD
  have hn : ((l.length : Int) - o.length - -1).toNat = l.length - o.length + 1 := by omega
  rw [hn]
  simp only [Int.toNat_natCast, rep_ints]
  refine loop_invT (fun i Γ => ∃ (fnd : List Int) (o3 o6 o7 o8 : Option D), fnd.length = l.length - o.length + 1 ∧ Γ = [.sh (li l), .sh (li o), .ac (fnd.map D.int), oS o3, .ac (((List.range i).foldl (fun f k => ppStep o (l.length - o.length - k) f) l).map D.int), .sh (.int o.length), oS o6, oS o7, oS o8])
    ⟨_, none, none, none, none, by simp, rfl⟩ ?_ ?_
  · rintro i a Γ kk e ⟨fnd, o3, o6, o7, o8, hf, rfl⟩ hk
    obtain ⟨rfl, hi⟩ := range_get e
    have hlen : ((List.range a).foldl (fun f k => ppStep o (l.length - o.length - k) f) l).length = l.length := foldl_len _ (fun f j => ppStep_len _ _ _) _ _
    rw [foldl_range] at hk
    generalize (List.range a).foldl (fun f k => ppStep o (l.length - o.length - k) f) l = f at *
    have e2 : (l.length : Int) - (o.length : Int) + (a : Int) * -1 = ((l.length - o.length - a : Nat) : Int) := by omega
    rw [e2]
    generalize hs : l.length - o.length - a = st at *
    walk_at "vs"
    refine optI_int (by omega) (by omega) ?_
    have e3 : ((st : Int) + (o.length : Int) - 1).toNat = st + o.length - 1 := by omega
    rw [e3]
    walk_at "vs"
    refine onN_pos (by omega) (by rw [List.length_map]; omega) ?_
    rw [set_int]
    simp only [Int.toNat_natCast]
    unfold ppStep at hk
    generalize f.getD (st + o.length - 1) 0 = v at *
    by_cases h0 : v = 0
    · have hk2 := hk _ ⟨fnd.set st v, some (.int st), some (.int v), o7, o8, by simpa using hf, rfl⟩
      rw [if_pos h0] at hk2
      simp only [h0, decide_true, Bool.not_true, Bool.false_eq_true, if_false]
      rw [h0] at hk2
      exact hk2
    · rw [if_neg h0] at hk
      simp only [h0, decide_false, Bool.not_false, if_true, enD_map]
      refine loop_invT (fun i Γ => ∃ (o7 o8 : Option D), Γ = [.sh (li l), .sh (li o), .ac ((fnd.set st v).map D.int), .sh (.int st), .ac (((o.zipIdx.take i).foldl (fun f p => f.set (st + p.2) (f.getD (st + p.2) 0 - v * p.1)) f).map D.int), .sh (.int o.length), .sh (.int v), oS o7, oS o8])
        ⟨o7, o8, rfl⟩ ?_ ?_
      · rintro i ⟨x, j⟩ Γ k2 e ⟨o7, o8, rfl⟩ hk'
        obtain ⟨ex, rfl⟩ := zipIdx_get e
        have hj : j < o.length := (List.getElem?_eq_some_iff.mp ex).1
        have hx := h4 x (List.mem_of_getElem? ex)
        have hl2 : ((o.zipIdx.take j).foldl (fun f p => f.set (st + p.2) (f.getD (st + p.2) 0 - v * p.1)) f).length = f.length := foldl_len _ (fun f a => by simp) _ _
        rw [foldl_take _ _ _ e] at hk'
        generalize (o.zipIdx.take j).foldl (fun f p => f.set (st + p.2) (f.getD (st + p.2) 0 - v * p.1)) f = f2 at *
        walk_at "vs"
        refine optI_int (by omega) (by omega) ?_
        refine ⟨Or.inl (Or.inr hx), onN_pos (by omega) (by rw [List.length_map]; omega) ?_⟩
        rw [set_int]
        have e5 : ((st : Int) + (j : Int)).toNat = st + j := by omega
        rw [e5]
        exact hk' _ ⟨some (.int j), some (.int x), rfl⟩
      · rintro Γ ⟨o7, o8, rfl⟩
        walk_at "vs"
        refine hk _ ⟨fnd.set st v, some (.int st), some (.int v), o7, o8, by simpa using hf, ?_⟩
        rw [List.take_length]
        rfl
  · rintro Γ ⟨fnd, o3, o6, o7, o8, hf, rfl⟩
    walk_at "vs"
    have hlen : ((List.range (List.range (l.length - o.length + 1)).length).foldl (fun f k => ppStep o (l.length - o.length - k) f) l).length = l.length := foldl_len _ (fun f j => ppStep_len _ _ _) _ _
    have e6 : (o.length : Int) - 1 = ((o.length - 1 : Nat) : Int) := by omega
    rw [e6, cutL_take (by rw [List.length_map, hlen]; omega), ← List.map_take]
    refine ⟨by rw [LN_eq]; omega, ?_⟩
    simp only [List.length_range]
    exact q fnd
theorem ord_pos {n : Nat} (h : n ∈ ordersL) : 2 ≤ n ∧ n ≤ 60 := by
  revert h n
  decide
theorem poly_facts : ∀ n ∈ ordersL, 2 ≤ (polyT n).length ∧ (polyT n).length ≤ n ∧ ∀ x ∈ polyT n, -(2 ^ 64) < x ∧ x < 2 ^ 64 := by decide +kernel
theorem sem_reduced : Sem 2 5 [] b_reduced fs_reduced := by
  rintro ds Qv hl ⟨f, n, rfl, h1, h2, q⟩
  obtain ⟨p1, p2, p3⟩ := poly_facts n h2
  have hn := ord_pos h2
  unfold b_reduced
  walk_at "vs"
  refine ⟨n, rfl, h2, ?_⟩
  walk_at "vs"
  refine ⟨f, n, rfl, h1, by omega, by omega, ?_⟩
  walk_at "vs"
  simp only [List.length_map]
  have e1 : decide (((polyT n).length : Int) ≤ (f.length : Int)) = true := by
    simp
    omega
  rw [e1]
  simp only [if_true]
  refine ⟨f, polyT n, rfl, by omega, by omega, by omega, p3, fun fnd => ?_⟩
  walk_at "vs"
  refine optI_at (by omega) rfl ?_
  have hr : (remP f (polyT n)).length = (polyT n).length - 1 := by
    unfold remP
    rw [List.length_take, foldl_len _ (fun f j => ppStep_len _ _ _)]
    omega
  walk_at "vs"
  simp only [List.length_map, hr, LN_eq]
  have e7 : ((polyT n).length : Int) - 1 - (((polyT n).length - 1 : Nat) : Int) = 0 := by omega
  rw [e7]
  refine ⟨by omega, by omega, by simp, by simp; omega, ?_⟩
  simpa [redO] using q
/-! prime parts: the loops on figures -/
def strip : Nat → Int → Int → Int
  | 0, l, _ => l
  | n + 1, l, d => if l % d = 0 then strip n (l / d) d else l
def stripOk : Nat → Int → Int → Bool
  | 0, l, d => decide (l % d ≠ 0)
  | n + 1, l, d => if l % d = 0 then stripOk n (l / d) d else true
def sim : Nat → List Int → Int → Int → List Int
  | 0, f, _, _ => f
  | n + 1, f, l, d => if 1 < l then (if l % d = 0 then sim n (f ++ [d]) (strip 8 l d) (d + 1) else sim n f l (d + 1)) else f
def simOk : Nat → Int → Int → Bool
  | 0, _, _ => false
  | n + 1, l, d => if 1 < l then (decide (0 < d) && decide (d < 1000) && (if l % d = 0 then stripOk 8 l d && simOk n (strip 8 l d) (d + 1) else simOk n l (d + 1))) else true
theorem inner_ok {E : VEnds} {s0 : Slot} {fs : List D} : ∀ (n : Nat) (l d : Int), 0 < d → d < 1000 → stripOk n l d = true → E.nx [s0, .ac fs, .sh (.int (strip n l d)), .sh (.int d)] →
    whileN (tV (w2 vEq (oE (w2 vMod (oVar 2) (oVar 3))) (oE (wC (D.int 0))))) (sCons (sSet 2 (w2 vDiv (oVar 2) (oVar 3))) sNil) E (n + 1) [s0, .ac fs, .sh (.int l), .sh (.int d)]
  | 0, l, d, hd, hd2, ok, h => by
    simp only [stripOk, decide_eq_true_eq] at ok
    simp only [whileN]
    walk_at "vs"
    simp only [ok, decide_false, Bool.false_eq_true, if_false]
    exact ⟨hd, h⟩
  | n + 1, l, d, hd, hd2, ok, h => by
    rw [whileN]
    walk_at "vs"
    refine ⟨hd, ?_⟩
    by_cases h0 : l % d = 0
    · simp only [stripOk, strip, h0, if_true] at ok h
      simp only [h0, decide_true, if_true]
      refine ⟨⟨hd, ?_⟩, inner_ok n (l / d) d hd hd2 ok h⟩
      have : d.natAbs < 2 ^ 10 := by omega
      have := (Nat.log2_lt (by omega : d.natAbs ≠ 0)).mpr this
      omega
    · simp only [stripOk, strip, h0, if_false] at ok h
      simp only [h0, decide_false, Bool.false_eq_true, if_false]
      exact h
theorem outer_ok {E : VEnds} {s0 : Slot} : ∀ (n : Nat) (f : List Int) (l d : Int), simOk n l d = true → f.length + n < 1000 → (∀ l' d', E.nx [s0, .ac ((sim n f l d).map D.int), .sh (.int l'), .sh (.int d')]) →
    whileN (tV (w2 vGt (oVar 2) (oE (wC (D.int 1)))))
      (sCons
        (sIf (tV (w2 vEq (oE (w2 vMod (oVar 2) (oVar 3))) (oE (wC (D.int 0)))))
          (sCons (sDrop (wApp 1 (wVar 3)))
            (sCons
              (sWhile (tV (w2 vEq (oE (w2 vMod (oVar 2) (oVar 3))) (oE (wC (D.int 0)))))
                (sCons (sSet 2 (w2 vDiv (oVar 2) (oVar 3))) sNil))
              sNil))
          sNil)
        (sCons (sSet 3 (w2 vAdd (oVar 3) (oE (wC (D.int 1))))) sNil)) E n [s0, .ac (f.map D.int), .sh (.int l), .sh (.int d)]
  | 0, f, l, d, ok, _, h => by simp [simOk] at ok
  | n + 1, f, l, d, ok, hl, h => by
    rw [whileN]
    walk_at "vs"
    by_cases h1 : 1 < l
    · simp only [simOk, sim, h1, if_true, Bool.and_eq_true, decide_eq_true_eq] at ok h
      simp only [h1, decide_true, if_true]
      obtain ⟨⟨hd, hd2⟩, ok⟩ := ok
      refine ⟨hd, ?_⟩
      by_cases h0 : l % d = 0
      · simp only [h0, if_true, Bool.and_eq_true] at ok h
        simp only [h0, decide_true, if_true]
        refine ⟨by rw [List.length_map, LN_eq]; omega, ⟨9, inner_ok 8 l d hd hd2 ok.1 ?_⟩⟩
        walk_at "vs"
        have := outer_ok n (f ++ [d]) (strip 8 l d) (d + 1) ok.2 (by simp; omega) h
        simpa using this
      · simp only [h0, if_false] at ok h
        simp only [h0, decide_false, Bool.false_eq_true, if_false]
        exact outer_ok n f l (d + 1) ok (by omega) h
    · simp only [sim, h1, if_false] at h
      simp only [h1, decide_false, Bool.false_eq_true, if_false]
      exact h l d
theorem pp_facts : ∀ n ∈ ordersL, simOk 12 (n : Int) 2 = true ∧ sim 12 [] (n : Int) 2 = ppT n := by decide +kernel
theorem sem_prime_parts : Sem 1 4 [] b_prime_parts fs_prime_parts := by
  rintro ds Qv hl ⟨n, rfl, h, q⟩
  obtain ⟨h1, h2⟩ := pp_facts n h
  unfold b_prime_parts
  walk_at "vs"
  refine ⟨by decide, 12, outer_ok 12 [] n 2 h1 (by decide) fun l' d' => ?_⟩
  walk_at "vs"
  rw [h2]
  exact q
end K76

-- S2
namespace K76
open PySem PySem.Spec L2 VL PyProof.Rows
theorem ppT_pos : ∀ n ∈ ordersL, ∀ p ∈ ppT n, 2 ≤ p ∧ p < 1000 := by decide +kernel
theorem log_9000 {d : Int} (h0 : 0 < d) (h : d < 1000) : d.natAbs.log2 < 9000 := by
  have : d.natAbs < 2 ^ 10 := by omega
  have := (Nat.log2_lt (by omega : d.natAbs ≠ 0)).mpr this
  omega
theorem ab_len (ps : List Int) : ∀ (q : List Nat × List Nat), (ps.foldl abF q).1.length + (ps.foldl abF q).2.length = (q.1.length + q.2.length) * 2 ^ ps.length := by
  induction ps with
  | nil => intro q; simp
  | cons p ps ih =>
    intro q
    rw [List.foldl_cons, ih]
    simp only [abF, List.length_append, List.length_map, List.length_cons]
    rw [Nat.pow_succ, Nat.mul_comm (2 ^ ps.length) 2, ← Nat.mul_assoc]
    congr 1
    omega
theorem ab_facts : ∀ n ∈ ordersL, (abT n).1.length ≤ 100 ∧ (abT n).2.length ≤ 100 ∧ (∀ k ∈ (abT n).1, k ≤ 100) ∧ (∀ k ∈ (abT n).2, 1 ≤ k ∧ k ≤ 100) ∧ (ppT n).length ≤ 3 ∧
    (∀ i ≤ (abT n).1.length, (((abT n).1.take i).foldl tlo [1]).length ≤ 1000) ∧ (∀ i < (abT n).2.length, (((abT n).2.take i).foldl blo ((abT n).1.foldl tlo [1])).length ≤ 1000 ∧ ((abT n).2.getD i 0) ≤ (((abT n).2.take i).foldl blo ((abT n).1.foldl tlo [1])).length) := by decide +kernel
abbrev ln (xs : List Nat) : D := .lst (xs.map fun (k : Nat) => D.int k)
theorem sem_polynomial_of_order : Sem 1 8 [] b_polynomial_of_order fs_polynomial_of_order := by
  rintro ds Qv hl ⟨n, rfl, h, q⟩
  obtain ⟨a1, a2, a3, a4, a5, a6, a7⟩ := ab_facts n h
  unfold b_polynomial_of_order
  walk_at "vs"
  refine ⟨by decide, by decide, n, rfl, h, ?_⟩
  walk_at "vs"
  refine loop_invT (fun i Γ => ∃ o1 o6, Γ = [.sh (.int n), oS o1, .un, .un, .ac ((((ppT n).take i).foldl abF ([n], [])).1.map fun (k : Nat) => D.int k), .ac ((((ppT n).take i).foldl abF ([n], [])).2.map fun (k : Nat) => D.int k), o6, .un] ∧ noIo o6 = true)
    ⟨none, .un, rfl, rfl⟩ ?_ ?_
  · rintro i p Γ k e ⟨o1, o6, rfl, ho⟩ hk
    have hp := ppT_pos n h p (List.mem_of_getElem? e)
    have hl2 : i < (ppT n).length := (List.getElem?_eq_some_iff.mp e).1
    have hlen := ab_len ((ppT n).take i) ([n], [])
    have hpw : 2 ^ ((ppT n).take i).length ≤ 2 ^ 3 := Nat.pow_le_pow_right (by decide) (by rw [List.length_take]; omega)
    simp only [List.length_cons, List.length_nil] at hlen
    rw [foldl_take _ _ _ e] at hk
    generalize ((ppT n).take i).foldl abF ([n], []) = ab at *
    obtain ⟨A, B⟩ := ab
    dsimp only at *
    walk_at "vs"
    refine lc_mapT (L := B) (fun (k : Nat) => D.int ((k : Int) / p)) (by rw [LN_eq]; omega) (fun b acc kk _ hacc hkk => ?_) ?_
    · walk_at "vs"
      exact ⟨⟨by omega, log_9000 (by omega) hp.2⟩, hacc, hkk⟩
    walk_at "vs"
    simp only [ho, if_true]
    refine lc_mapT (L := A) (fun (k : Nat) => D.int ((k : Int) / p)) (by rw [LN_eq]; omega) (fun b acc kk _ hacc hkk => ?_) ?_
    · walk_at "vs"
      exact ⟨⟨by omega, log_9000 (by omega) hp.2⟩, hacc, hkk⟩
    walk_at "vs"
    simp only [List.length_map, LN_eq]
    refine ⟨by omega, by omega, hk _ ⟨some (.int p), .ac (B.map fun (k : Nat) => D.int ((k : Int) / p)), ?_, rfl⟩⟩
    have ep : ∀ xs : List Nat, xs.map (fun (k : Nat) => D.int ((k : Int) / p)) = (xs.map (· / p.toNat)).map fun (k : Nat) => D.int k := fun xs => by
      rw [List.map_map]
      refine List.map_congr_left fun k _ => ?_
      have : ((p.toNat : Nat) : Int) = p := by omega
      simp [this]
    simp only [abF, List.map_append, ep]
    rfl
  · rintro Γ ⟨o1, o6, rfl, ho⟩
    rw [List.take_length]
    have eA : (ppT n).foldl abF ([n], []) = abT n := rfl
    rw [eA]
    walk_at "vs"
    refine ⟨by decide, ?_⟩
    refine loop_invT (fun i Γ => ∃ o3 o4, Γ = [.sh (.int n), oS o1, .ac ((((abT n).1.take i).foldl tlo [1]).map D.int), oS o3, o4, .ac ((abT n).2.map fun (k : Nat) => D.int k), o6, .un]) ⟨none, _, rfl⟩ ?_ ?_
    · rintro i p Γ k e ⟨o3, o4, rfl⟩ hk
      have hl2 : i < (abT n).1.length := (List.getElem?_eq_some_iff.mp e).1
      rw [foldl_take _ _ _ e] at hk
      walk_at "vs"
      refine ⟨_, p, rfl, a6 i (by omega), by have := a3 p (List.mem_of_getElem? e); omega, ?_⟩
      walk_at "vs"
      exact hk _ ⟨some (.int p), _, rfl⟩
    · rintro Γ ⟨o3, o4, rfl⟩
      rw [List.take_length]
      walk_at "vs"
      refine loop_invT (fun i Γ => ∃ o3 o5, Γ = [.sh (.int n), oS o1, .ac ((((abT n).2.take i).foldl blo ((abT n).1.foldl tlo [1])).map D.int), oS o3, o4, o5, o6, .un]) ⟨o3, _, rfl⟩ ?_ ?_
      · rintro i p Γ k e ⟨o3, o5, rfl⟩ hk
        have hl2 : i < (abT n).2.length := (List.getElem?_eq_some_iff.mp e).1
        have h8 := a7 i hl2
        have h9 : (abT n).2.getD i 0 = p := by rw [List.getD_eq_getElem?_getD, e]; rfl
        rw [h9] at h8
        rw [foldl_take _ _ _ e] at hk
        walk_at "vs"
        refine ⟨_, p, rfl, h8.1, (a4 p (List.mem_of_getElem? e)).1, h8.2, ?_⟩
        walk_at "vs"
        exact hk _ ⟨some (.int p), _, rfl⟩
      · rintro Γ ⟨o3, o5, rfl⟩
        rw [List.take_length]
        walk_at "vs"
        exact q
theorem sem_is_whole : Sem 1 1 [] b_is_whole fs_is_whole := by
  rintro ds Qv hl ⟨d, rfl, h, q⟩
  unfold b_is_whole
  walk_at "vs"
  refine ⟨h, ?_⟩
  cases e : isTy .int d
  · rw [e] at q
    simpa using q
  · rw [e] at q
    exact ⟨h, by simpa using q⟩
theorem sem_is_between : Sem 3 3 [] b_is_between fs_is_between := by
  rintro ds Qv hl ⟨v, lo, hi, rfl, q⟩
  unfold b_is_between
  walk_at "vs"
  refine ⟨_, rfl, rfl, ?_⟩
  walk_at "vs"
  simp only [isTy, Bool.not_false, Bool.true_and, if_true]
  by_cases h1 : lo ≤ v
  · simp only [h1, decide_true, if_true] at q ⊢
    simpa using q
  · simp only [h1, decide_false, Bool.false_eq_true, if_false] at q ⊢
    simpa using q
theorem sem_are_wholes : Sem 2 3 [] b_are_wholes fs_are_wholes := by
  rintro ds Qv hl ⟨r, n, rfl, h1, h2, q⟩
  unfold b_are_wholes
  walk_at "vs"
  rw [show isTy .tup (ti r) = true from rfl]
  refine ⟨rfl, ?_⟩
  simp only [List.length_map, h1, decide_true, if_true]
  refine lc_mapT (fun _ => .bl true) (by rw [LN_eq]; omega) (fun a acc k _ hacc hk => ?_) ?_
  · walk_at "vs"
    refine ⟨_, rfl, rfl, ?_⟩
    walk_at "vs"
    simpa [isTy] using ⟨hacc, hk⟩
  · have e : r.map (fun _ => D.bl true) = (r.map fun _ => true).map D.bl := by rw [List.map_map]; rfl
    rw [e]
    walk_at "vs"
    have e2 : (r.map fun _ => true).all id = true := by simp
    rw [e2]
    exact q
theorem sem_made : Sem 2 2 [] b_made fs_made := by
  rintro ds Qv hl ⟨f, n, rfl, h1, h2, q⟩
  unfold b_made
  walk_at "vs"
  refine ⟨f, n, rfl, h1, h2, ?_⟩
  walk_at "vs"
  exact ⟨by decide, q⟩
theorem sem_is_nothing : Sem 1 2 [] b_is_nothing fs_is_nothing := by
  rintro ds Qv hl ⟨n, r, rfl, h1, q⟩
  unfold b_is_nothing
  walk_at "vs"
  refine optI_at (by decide) rfl ?_
  walk_at "vs"
  refine lc_fmT (L := r) (fun x => if x = 0 then none else some (.int x)) (by rw [LN_eq]; omega) (fun x acc k _ hacc hk => ?_) ?_
  · walk_at "vs"
    by_cases h0 : x = 0
    · simp only [h0, if_true, Option.toList_none, List.append_nil] at hk
      simp only [h0, decide_true, Bool.not_true, Bool.false_eq_true, if_false]
      exact hk
    · simp only [h0, if_false, Option.toList_some] at hk
      simp only [h0, decide_false, Bool.not_false, if_true]
      exact ⟨hacc, hk⟩
  · have e : r.filterMap (fun x => if x = 0 then none else some (D.int x)) = (r.filter (fun x => decide (x ≠ 0))).map D.int := by
      clear q h1 hl
      induction r with
      | nil => rfl
      | cons x r ih => by_cases h0 : x = 0 <;> simp [List.filterMap_cons, List.filter_cons, h0, ih]
    rw [e, eqP_linil, okP_li, okP_lnil]
    refine ⟨by decide, rfl, rfl, ?_⟩
    have e2 : (r.filter (fun x => decide (x ≠ 0))).isEmpty = r.all fun x => decide (x = 0) := by
      clear q h1 hl e
      induction r with
      | nil => rfl
      | cons x r ih =>
        by_cases h0 : x = 0
        · simpa [List.filter_cons, h0] using ih
        · simp [List.filter_cons, h0]
    rw [e2]
    exact q
theorem sem_is_slots : Sem 1 1 [] b_is_slots fs_is_slots := by
  rintro ds Qv hl ⟨v, rfl, h1, h2, q⟩
  unfold b_is_slots
  walk_at "vs"
  refine ⟨v, 2, 60, rfl, ?_⟩
  walk_at "vs"
  simpa [h1, h2] using q
theorem sem_is_row : Sem 1 1 [] b_is_row fs_is_row := by
  rintro ds Qv hl ⟨r, rfl, h1, h2, q⟩
  unfold b_is_row
  walk_at "vs"
  simp only [List.length_map, isTy, isRaw, if_true, true_and]
  refine ⟨_, rfl, by omega, by omega, ?_⟩
  walk_at "vs"
  simp only [List.length_map]
  refine ⟨r, r.length, rfl, rfl, by omega, ?_⟩
  walk_at "vs"
  exact q
theorem sem_is_phase : Sem 1 1 [] b_is_phase fs_is_phase := by
  rintro ds Qv hl ⟨r, rfl, h1, h2, h3, q⟩
  unfold b_is_phase
  walk_at "vs"
  refine ⟨r, rfl, h1, h2, ?_⟩
  walk_at "vs"
  simpa [h3] using q
end K76

-- S3
namespace K76
open PySem PySem.Spec L2 VL PyProof.Rows
theorem okP_wD (a b c : List Int) : okP (wD a b c) = true := by
  simp [okP, toP, toPs, toPs_ints, SeqAt.shaped, PyData.canLay0, PyData.canLayAll0, layAll_ints, PyData.depth, PyData.depthAll, VL.depthAll_ints]
theorem eqP_wD (a b c : List Int) : eqP (wD a b c) (.tup []) = false := by
  simp [eqP, toP, toPs, toPs_ints, PyData.eqv, PyData.eqvAll]
theorem slots_pos {n : Nat} (h : n ∈ slotsL) : 2 ≤ n ∧ n ≤ 20 := by
  revert h n
  decide
theorem ord_mem {n : Nat} (h : n ∈ slotsL) : ordOf n ∈ ordersL := by
  revert h n
  decide
theorem sem_check_winding : Sem 1 3 [] b_check_winding fs_check_winding := by
  rintro ds Qv hl ⟨n, a, b, c, rfl, W, q⟩
  have hn := slots_pos W.mem
  have la := W.la
  have lb := W.lb
  have lc := W.lc
  unfold b_check_winding
  walk_at "vs"
  simp only [isTy, isRaw, Bool.not_true, Bool.false_eq_true, if_false, okP_wD, okP_tnil, eqP_wD, true_and, Nat.zero_le, enD]
  refine loop_inv (fun i Γ => ∃ o1 o2, Γ = [.sh (wD a b c), oS o1, oS o2]) ⟨none, none, rfl⟩ ?_ ?_
  · rintro i d Γ k e ⟨o1, o2, rfl⟩ hk
    obtain ⟨r, hi, rfl, hr, hs⟩ : ∃ r, i < 3 ∧ d = .tup [.int (i : Nat), ti r] ∧ r.length = n ∧ r.sum = 0 := by
      match i, e with
      | 0, e => exact ⟨a, by decide, (Option.some.inj e).symm, W.la, W.sa⟩
      | 1, e => exact ⟨b, by decide, (Option.some.inj e).symm, W.lb, W.sb⟩
      | 2, e => exact ⟨c, by decide, (Option.some.inj e).symm, W.lc, W.sc⟩
      | i + 3, e => simp at e
    walk_at "vs"
    have e6 : decide ((i : Int) = 6) = false := by simp; omega
    simp only [e6, Bool.false_eq_true, if_false]
    refine ⟨r, rfl, by omega, by omega, hs, ?_⟩
    walk_at "vs"
    refine optI_at (by decide) rfl ?_
    walk_at "vs"
    simp only [List.length_map, hr, la, decide_true, Bool.not_true, Bool.false_eq_true, if_false]
    exact hk _ ⟨some (.int i), some (ti r), rfl⟩
  · rintro Γ ⟨o1, o2, rfl⟩
    walk_at "vs"
    exact q
theorem sem_check_three : Sem 1 1 [] b_check_three fs_check_three := by
  rintro ds Qv hl ⟨n, a, b, c, rfl, W, q⟩
  unfold b_check_three
  walk_at "vs"
  exact q
theorem pts_len {n : Nat} {a b c : List Int} (W : Wd n a b c) : (ptsOf a b c).length = n := by
  simp [ptsOf, W.la, W.lb, W.lc]
theorem sem_points_of : Sem 1 4 [] b_points_of fs_points_of := by
  rintro ds Qv hl ⟨n, a, b, c, rfl, W, q⟩
  have hn := slots_pos W.mem
  unfold b_points_of
  walk_at "vs"
  refine optI_at (by decide) rfl ?_
  walk_at "vs"
  refine optI_at (by decide) rfl ?_
  walk_at "vs"
  refine optI_at (by decide) rfl ?_
  walk_at "vs"
  rw [zp3_map]
  refine lc_mapT (fun p => pD (p.1 - p.2.1, p.2.2 - p.2.1)) (by simp [LN_eq, W.la, W.lb, W.lc]; omega) (fun p acc k _ hacc hk => ?_) ?_
  · walk_at "vs"
    exact ⟨by decide, hacc, hk⟩
  · simpa [ptsOf, lp, Function.comp_def] using q
theorem sem_law_points : Sem 1 4 [] b_law_points fs_law_points := sem_points_of
theorem sem_wave_of : Sem 2 2 [] b_wave_of fs_wave_of := by
  rintro ds Qv hl ⟨n, a, b, c, h, rfl, W, q⟩
  have hl := pts_len W
  unfold b_wave_of
  walk_at "vs"
  refine ⟨n, a, b, c, rfl, W, ?_⟩
  walk_at "vs"
  refine ⟨_, h, rfl, by rw [hl]; exact W.mem, ?_⟩
  walk_at "vs"
  rw [hl]
  exact q
theorem remP_len (l o : List Int) (h : 1 ≤ o.length) (h2 : o.length ≤ l.length) : (remP l o).length = o.length - 1 := by
  unfold remP
  rw [List.length_take, foldl_len _ (fun f j => ppStep_len _ _ _)]
  omega
theorem addAt_len (f : List Int) (i : Nat) (v : Int) : (addAt f i v).length = f.length := by simp [addAt]
theorem waveRow_len (P : List (Int × Int)) (h : Int) : (waveRow P h).length = ordOf P.length := by
  unfold waveRow
  rw [foldl_len _ (fun f a => by simp [addAt_len])]
  simp
theorem redO_len {n : Nat} (hn : n ∈ ordersL) (f : List Int) (hf : f.length = n) : (redO n f).length ≤ 60 := by
  obtain ⟨p1, p2, p3⟩ := poly_facts n hn
  have := ord_pos hn
  unfold redO
  rw [remP_len _ _ (by omega) (by omega)]
  omega
theorem sem_has_wave : Sem 2 2 [] b_has_wave fs_has_wave := by
  rintro ds Qv hl ⟨n, a, b, c, h, rfl, W, q⟩
  have hl := pts_len W
  unfold b_has_wave
  walk_at "vs"
  refine ⟨n, a, b, c, h, rfl, W, ?_⟩
  walk_at "vs"
  refine ⟨_, _, rfl, ?_, ?_⟩
  · have := redO_len (ord_mem W.mem) (waveRow (ptsOf a b c) h) (by rw [waveRow_len, hl])
    omega
  walk_at "vs"
  unfold hasW at q
  rw [hl] at q
  exact q
theorem sem_waves_of : Sem 1 2 [] b_waves_of fs_waves_of := by
  rintro ds Qv hl ⟨n, a, b, c, rfl, W, q⟩
  have hn := slots_pos W.mem
  have hl := pts_len W
  unfold b_waves_of
  walk_at "vs"
  refine optI_at (by decide) rfl ?_
  walk_at "vs"
  simp only [List.length_map, W.la, Int.toNat_natCast]
  refine ⟨by unfold smallI; omega, ?_⟩
  unfold rgD
  refine lc_fmT (fun (k : Nat) => if hasW (ptsOf a b c) k = true then some (.int k) else none) (by simp [LN_eq]; omega) (fun k acc kk _ hacc hkk => ?_) ?_
  · have e : (0 : Int) + (k : Int) * 1 = k := by omega
    rw [e]
    walk_at "vs"
    refine ⟨n, a, b, c, k, rfl, W, ?_⟩
    walk_at "vs"
    cases z : hasW (ptsOf a b c) k
    · rw [z] at hkk
      simpa using hkk
    · rw [z] at hkk
      simp only [if_true]
      exact ⟨hacc, by simpa using hkk⟩
  · unfold wvs at q
    rw [hl] at q
    have e : (List.range n).filterMap (fun (k : Nat) => if hasW (ptsOf a b c) k = true then some (D.int k) else none) = (((List.range n).filter fun (k : Nat) => hasW (ptsOf a b c) (k : Int)).map fun (k : Nat) => (k : Int)).map D.int := by
      generalize List.range n = L
      induction L with
      | nil => rfl
      | cons k L ih => by_cases h0 : hasW (ptsOf a b c) k = true <;> simp [List.filterMap_cons, List.filter_cons, h0] <;> simpa using ih
    rw [e]
    exact q
end K76

-- S4
namespace K76
open PySem PySem.Spec L2 VL PyProof.Rows
theorem ordOf_pos {n : Nat} (h : n ∈ slotsL) : 3 ≤ ordOf n ∧ ordOf n ≤ 60 ∧ 1 ≤ ordOf n / n := by
  revert h n
  decide
theorem set_add (f : List Int) (i : Nat) (v : Int) : (f.map D.int).set i (.int (f.getD i 0 + v)) = (addAt f i v).map D.int := by
  rw [set_int]
  rfl
theorem sem_taken_by : Sem 2 9 [] b_taken_by fs_taken_by := by
  rintro ds Qv hl ⟨P, h, rfl, hm, q⟩
  have hn := slots_pos hm
  have ho := ordOf_pos hm
  unfold b_taken_by
  walk_at "vs"
  simp only [List.length_map]
  have e3 : ((P.length : Int) % 3 = 0) ↔ (P.length % 3 = 0) := by omega
  have tail : ∀ o2 : Int, o2 = (ordOf P.length : Nat) → (sCons (sSet 4 (w2 vMul (oE (wLst (aCons (oE (wC (.int 0))) aNil))) (oVar 3)))
  (sCons (sFor (iEnum1 (aCons (oE (wVar 0)) aNil)) (gTp 2 (gsCons (gNm 5) (gsCons (gTp 2 (gsCons (gNm 7) (gsCons (gNm 8) gsNil))) gsNil)))
  (sCons (sSet 6 (w2 vMod (oE (w2 vMul (oE (w2 vMul (oE (w2 vDiv (oVar 3) (oVar 2))) (oVar 1))) (oVar 5))) (oVar 3)))
  (sCons (sAsg (w2 vAdd (oE (w2 vIx (oVar 4) (oVar 6))) (oVar 7)) (gSubN 4 (wVar 6)))
  (sCons (sSet 6 (w2 vMod (oE (w2 vAdd (oVar 6) (oE (w2 vDiv (oVar 3) (oE (wC (.int 3))))))) (oVar 3)))
  (sCons (sAsg (w2 vAdd (oE (w2 vIx (oVar 4) (oVar 6))) (oVar 8)) (gSubN 4 (wVar 6)))
  sNil)))))
  (sCons (sRet (wCall 2 [] fs_made (aCons (oE (wVar 3)) (aCons (oE (wVar 4)) aNil))))
  sNil))) { nx := fun Γ => Qv D.non false [], rt := fun d fl Γ => Qv d fl [] } [.sh (lp P), .sh (.int h), .sh (.int P.length), .sh (.int o2), .un, .un, .un, .un, .un] := by
    rintro o2 rfl
    walk_at "vs"
    simp only [Int.toNat_natCast, rep_flat, rep_ints, LN_eq, enD_map]
    refine ⟨by omega, by omega, by omega, loop_invT (fun i Γ => ∃ o5 o6 o7 o8, Γ = [.sh (lp P), .sh (.int h), .sh (.int P.length), .sh (.int (ordOf P.length : Nat)),
      .ac (((P.zipIdx.take i).foldl (fun f q => addAt (addAt f (angle P.length h q.2) q.1.1) ((angle P.length h q.2 + ordOf P.length / 3) % ordOf P.length) q.1.2) (List.replicate (ordOf P.length) 0)).map D.int), oS o5, oS o6, oS o7, oS o8]) ⟨none, none, none, none, rfl⟩ ?_ ?_⟩
    · rintro i ⟨⟨x, y⟩, j⟩ Γ k e ⟨o5, o6, o7, o8, rfl⟩ hk
      obtain ⟨ex, rfl⟩ := zipIdx_get e
      have hj : j < P.length := (List.getElem?_eq_some_iff.mp ex).1
      have hlen : ((P.zipIdx.take j).foldl (fun f q => addAt (addAt f (angle P.length h q.2) q.1.1) ((angle P.length h q.2 + ordOf P.length / 3) % ordOf P.length) q.1.2) (List.replicate (ordOf P.length) 0)).length = ordOf P.length := by
        rw [foldl_len _ (fun f a => by simp [addAt_len])]
        simp
      rw [foldl_take _ _ _ e] at hk
      generalize (P.zipIdx.take j).foldl (fun f q => addAt (addAt f (angle P.length h q.2) q.1.1) ((angle P.length h q.2 + ordOf P.length / 3) % ordOf P.length) q.1.2) (List.replicate (ordOf P.length) 0) = f at *
      have hang : ((ordOf P.length : Nat) : Int) / (P.length : Int) * h * (j : Int) % ((ordOf P.length : Nat) : Int) = (angle P.length h j : Nat) := by
        unfold angle
        have h0 : (0 : Int) < (ordOf P.length : Nat) := by omega
        have := Int.emod_nonneg (((ordOf P.length / P.length : Nat) : Int) * h * (j : Int)) (show ((ordOf P.length : Nat) : Int) ≠ 0 by omega)
        have e0 : ((ordOf P.length / P.length : Nat) : Int) = ((ordOf P.length : Nat) : Int) / (P.length : Int) := by simp
        rw [← e0]
        omega
      have hlt : angle P.length h j < ordOf P.length := by
        have := Int.emod_lt_of_pos (((ordOf P.length : Nat) : Int) / (P.length : Int) * h * (j : Int)) (show (0 : Int) < (ordOf P.length : Nat) by omega)
        omega
      walk_at "vs"
      rw [hang]
      generalize angle P.length h j = an at *
      have hlog : (P.length : Int).natAbs.log2 < 9000 := log_9000 (by omega) (by omega)
      have hdiv : -(2 ^ 64) < ((ordOf P.length : Nat) : Int) / (P.length : Int) ∧ ((ordOf P.length : Nat) : Int) / (P.length : Int) < 2 ^ 64 := by
        have e0 : ((ordOf P.length / P.length : Nat) : Int) = ((ordOf P.length : Nat) : Int) / (P.length : Int) := by simp
        rw [← e0]
        have : ordOf P.length / P.length ≤ ordOf P.length := Nat.div_le_self _ _
        omega
      refine ⟨⟨by omega, hlog⟩, Or.inl (Or.inl hdiv), Or.inl (Or.inr ⟨by omega, by omega⟩), by omega, optI_int (by omega) (by omega) ?_⟩
      walk_at "vs"
      refine onN_pos (by omega) (by rw [List.length_map]; omega) ?_
      simp only [Int.toNat_natCast]
      rw [set_add]
      have h3 : ((an : Int) + ((ordOf P.length : Nat) : Int) / 3) % ((ordOf P.length : Nat) : Int) = (((an + ordOf P.length / 3) % ordOf P.length : Nat) : Int) := by simp
      rw [h3]
      have hlt3 : (an + ordOf P.length / 3) % ordOf P.length < ordOf P.length := Nat.mod_lt _ (by omega)
      have hl5 := addAt_len f an x
      refine ⟨⟨by decide, log_9000 (by decide) (by decide)⟩, by omega, optI_int (by omega) (by omega) ?_⟩
      walk_at "vs"
      refine onN_pos (by omega) (by rw [List.length_map]; omega) ?_
      simp only [Int.toNat_natCast]
      rw [set_add]
      exact hk _ ⟨some (.int j), some (.int _), some (.int x), some (.int y), rfl⟩
    · rintro Γ ⟨o5, o6, o7, o8, rfl⟩
      rw [List.take_length]
      walk_at "vs"
      refine ⟨_, _, rfl, ?_, ord_mem hm, q⟩
      exact waveRow_len P h
  by_cases h0 : P.length % 3 = 0
  · have h1 : (P.length : Int) % 3 = 0 := by omega
    simp only [h1, decide_true, if_true]
    exact ⟨by decide, tail P.length (by simp [ordOf, h0])⟩
  · have h1 : ¬ (P.length : Int) % 3 = 0 := by omega
    simp only [h1, decide_false, Bool.false_eq_true, if_false]
    exact ⟨by decide, Or.inl (Or.inl ⟨by decide, by decide⟩), tail _ (by simp [ordOf, h0])⟩
end K76

-- S5
namespace K76
open PySem PySem.Spec L2 VL PyProof.Rows
theorem sorted_ext : ∀ {xs ys : List Int}, xs.Pairwise (· < ·) → ys.Pairwise (· < ·) → (∀ k, k ∈ xs ↔ k ∈ ys) → xs = ys
  | [], [], _, _, _ => rfl
  | [], y :: ys, _, _, h => by have := (h y).2 (by simp); simp at this
  | x :: xs, [], _, _, h => by have := (h x).1 (by simp); simp at this
  | x :: xs, y :: ys, hx, hy, h => by
    obtain ⟨hx1, hx2⟩ := List.pairwise_cons.mp hx
    obtain ⟨hy1, hy2⟩ := List.pairwise_cons.mp hy
    have e : x = y := by
      rcases List.mem_cons.mp ((h x).1 (by simp)) with e | m
      · exact e
      · rcases List.mem_cons.mp ((h y).2 (by simp)) with e | m2
        · exact e.symm
        · have := hx1 y m2
          have := hy1 x m
          omega
    subst e
    rw [sorted_ext hx2 hy2 fun k => ?_]
    constructor
    · intro m
      rcases List.mem_cons.mp ((h k).1 (List.mem_cons_of_mem _ m)) with e | m2
      · subst e; have := hx1 k m; omega
      · exact m2
    · intro m
      rcases List.mem_cons.mp ((h k).2 (List.mem_cons_of_mem _ m)) with e | m2
      · subst e; have := hy1 k m; omega
      · exact m2
theorem nodup_len : ∀ (d : Nat) (L : List Int), L.Nodup → (∀ k ∈ L, 0 ≤ k ∧ k < (d : Int)) → L.length ≤ d
  | 0, L, _, h => by
    cases L with
    | nil => simp
    | cons x L => have := h x (by simp); omega
  | d + 1, L, nd, h => by
    by_cases hm : (d : Int) ∈ L
    · have h1 := nodup_len d (L.erase d) (nd.erase _) fun k hk => by
        have h2 := (nd.mem_erase_iff).mp hk
        have h3 := h k h2.2
        have h4 := h2.1
        exact ⟨h3.1, by omega⟩
      have := List.length_erase_of_mem hm
      omega
    · have h1 := nodup_len d L nd fun k hk => by
        have h3 := h k hk
        have h4 : k ≠ (d : Int) := fun e => hm (e ▸ hk)
        exact ⟨h3.1, by omega⟩
      omega
theorem rangeI_sorted (n : Nat) (p : Nat → Bool) : (((List.range n).filter p).map fun (k : Nat) => (k : Int)).Pairwise (· < ·) := by
  rw [List.pairwise_map]
  exact (List.pairwise_lt_range.filter p).imp fun h => by omega
theorem dv_pos {n p : Nat} (hn : 2 ≤ n) (hn2 : n ≤ 20) : 1 ≤ dv n p ∧ dv n p ≤ n := by
  unfold dv
  have h1 : 0 < Nat.gcd (2 * p) n := Nat.gcd_pos_of_pos_right _ (by omega)
  have h2 : Nat.gcd (2 * p) n ≤ n := Nat.gcd_le_right _ (by omega)
  omega
theorem sem_check_pairs : Sem 1 1 [] b_check_pairs fs_check_pairs := by
  rintro ds Qv hl ⟨p, rfl, hp, q⟩
  obtain ⟨h1, h2⟩ := hp
  unfold b_check_pairs
  walk_at "vs"
  refine ⟨_, _, _, rfl, ?_⟩
  walk_at "vs"
  have e1 : decide ((1 : Int) ≤ (p : Int)) = true := by simp; omega
  have e2 : decide ((p : Int) ≤ 60) = true := by simp; omega
  simp only [e1, e2, Bool.and_self, Bool.not_true, Bool.false_eq_true, if_false]
  exact q
theorem sem_check_rotor : Sem 2 2 [] b_check_rotor fs_check_rotor := by
  rintro ds Qv hl ⟨n, a, b, c, p, rfl, W, hp, q⟩
  unfold b_check_rotor
  walk_at "vs"
  refine ⟨n, a, b, c, rfl, W, ?_⟩
  walk_at "vs"
  refine ⟨p, rfl, hp, ?_⟩
  walk_at "vs"
  refine ⟨n, a, b, c, rfl, W, ?_⟩
  walk_at "vs"
  exact q
theorem sem_divisor_for : Sem 2 2 [] b_divisor_for fs_divisor_for := by
  rintro ds Qv hl ⟨n, a, b, c, p, rfl, W, hp, q⟩
  unfold b_divisor_for
  walk_at "vs"
  refine ⟨Or.inl (Or.inl ⟨by decide, by decide⟩), optI_at (by decide) rfl ?_⟩
  walk_at "vs"
  have e : ((2 : Int) * (p : Int)).natAbs = 2 * p := by omega
  simp only [List.length_map, W.la, e, Int.natAbs_natCast]
  exact q
def lobF (p : Nat) (d : Nat) (W : List Int) : List Int := W.flatMap fun h => [((p : Int) - h) % (d : Int), (h - (p : Int)) % (d : Int)]
theorem lobF_len (p d : Nat) (W : List Int) : (lobF p d W).length = 2 * W.length := by
  unfold lobF
  induction W with
  | nil => rfl
  | cons x W ih => simp [List.flatMap_cons, ih]; omega
theorem wvs_len (P : List (Int × Int)) : (wvs P).length ≤ P.length := by
  unfold wvs
  rw [List.length_map]
  exact Nat.le_trans (List.length_filter_le _ _) (by simp)
theorem lob_mem {P : List (Int × Int)} {p : Nat} (hd : 1 ≤ dv P.length p) (k : Int) : k ∈ lob P p ↔ k ∈ lobF p (dv P.length p) (wvs P) := by
  unfold lob lobF
  rw [List.mem_map, List.mem_flatMap]
  constructor
  · rintro ⟨a, ha, rfl⟩
    rw [List.mem_filter, List.any_eq_true] at ha
    obtain ⟨_, h, hm, hh⟩ := ha
    refine ⟨h, hm, ?_⟩
    simp only [Bool.or_eq_true, decide_eq_true_eq] at hh
    rcases hh with hh | hh <;> simp [hh]
  · rintro ⟨h, hm, hk⟩
    have hr : 0 ≤ k ∧ k < (dv P.length p : Nat) := by
      rcases List.mem_cons.mp hk with e | hk
      · subst e
        exact ⟨Int.emod_nonneg _ (by omega), Int.emod_lt_of_pos _ (by omega)⟩
      · rw [List.mem_singleton] at hk
        subst hk
        exact ⟨Int.emod_nonneg _ (by omega), Int.emod_lt_of_pos _ (by omega)⟩
    refine ⟨k.toNat, ?_, by omega⟩
    rw [List.mem_filter, List.any_eq_true]
    refine ⟨List.mem_range.mpr (by omega), h, hm, ?_⟩
    have e2 : ((k.toNat : Nat) : Int) = k := by omega
    rw [e2]
    rcases List.mem_cons.mp hk with e | hk
    · simp [e]
    · rw [List.mem_singleton] at hk
      simp [hk]
theorem sem_lobes_mixed : Sem 2 5 [] b_lobes_mixed fs_lobes_mixed := by
  rintro ds Qv hl ⟨n, a, b, c, p, rfl, W, hp, q⟩
  have hn := slots_pos W.mem
  have hl := pts_len W
  have hdv := dv_pos (p := p) hn.1 hn.2
  have hw := wvs_len (ptsOf a b c)
  unfold b_lobes_mixed
  walk_at "vs"
  refine ⟨n, a, b, c, p, rfl, W, hp, ?_⟩
  walk_at "vs"
  refine ⟨by decide, n, a, b, c, rfl, W, ?_⟩
  walk_at "vs"
  refine loop_invT (fun i Γ => ∃ o2, Γ = [.sh (wD a b c), .sh (.int p), oS o2, .sh (.int (dv n p : Nat)), .ac ((lobF p (dv n p) ((wvs (ptsOf a b c)).take i)).map D.int)]) ⟨none, rfl⟩ ?_ ?_
  · rintro i h Γ k e ⟨o2, rfl⟩ hk
    have hi : i < (wvs (ptsOf a b c)).length := (List.getElem?_eq_some_iff.mp e).1
    have hl2 := lobF_len p (dv n p) ((wvs (ptsOf a b c)).take i)
    rw [List.length_take] at hl2
    walk_at "vs"
    refine ⟨by omega, by omega, by decide, by rw [List.length_map, LN_eq]; omega, hk _ ⟨some (.int h), ?_⟩⟩
    unfold lobF
    rw [List.take_add_one, e, List.flatMap_append, List.map_append]
    rfl
  · rintro Γ ⟨o2, rfl⟩
    rw [List.take_length]
    walk_at "vs"
    simp only [wSorSet, oVar, gAt, argD, slD, isInts_map]
    have hmem : ∀ k ∈ lobF p (dv n p) (wvs (ptsOf a b c)), 0 ≤ k ∧ k < ((dv n p : Nat) : Int) := by
      intro k hk
      unfold lobF at hk
      obtain ⟨h, _, hk⟩ := List.mem_flatMap.mp hk
      rcases List.mem_cons.mp hk with e | hk
      · subst e
        exact ⟨Int.emod_nonneg _ (by omega), Int.emod_lt_of_pos _ (by omega)⟩
      · rw [List.mem_singleton] at hk
        subst hk
        exact ⟨Int.emod_nonneg _ (by omega), Int.emod_lt_of_pos _ (by omega)⟩
    refine ⟨by rw [lobF_len]; omega, fun L nd hL => ?_, fun ms h1 h2 => ?_⟩
    · have := nodup_len (dv n p) L nd fun k hk => hmem k ((hL k).1 hk)
      omega
    · have e : ms = lob (ptsOf a b c) p := by
        refine sorted_ext h1 (rangeI_sorted _ _) fun k => (h2 k).trans ?_
        have := lob_mem (P := ptsOf a b c) (p := p) (by rw [hl]; omega) k
        rw [hl] at this
        exact this.symm
      rw [e]
      exact q
theorem sem_ripples_at : Sem 3 3 [] b_ripples_at fs_ripples_at := by
  rintro ds Qv hl ⟨n, a, b, c, p, m, rfl, W, hp, q⟩
  unfold b_ripples_at
  have hm : ∀ x : Int, CMul x (p : Int) := fun x => Or.inr ⟨by have := hp.2; omega, by have := hp.2; omega⟩
  walk_at "vs"
  refine ⟨Or.inl (Or.inl ⟨by decide, by decide⟩), Or.inl (hm _), n, a, b, c, _, rfl, W, ?_⟩
  walk_at "vs"
  unfold rip at q
  cases e : hasW (ptsOf a b c) ((p : Int) + 2 * (m : Int) * (p : Int))
  · simp only [Bool.false_eq_true, if_false]
    refine ⟨Or.inl (Or.inl ⟨by decide, by decide⟩), Or.inl (hm _), n, a, b, c, _, rfl, W, ?_⟩
    walk_at "vs"
    rw [e] at q
    simpa using q
  · simp only [if_true]
    rw [e] at q
    simpa using q
theorem sem_mixed_lobes : Sem 2 2 [] b_mixed_lobes fs_mixed_lobes := by
  rintro ds Qv hl ⟨n, a, b, c, p, rfl, W, hp, q⟩
  unfold b_mixed_lobes
  walk_at "vs"
  refine ⟨n, a, b, c, p, rfl, W, hp, ?_⟩
  walk_at "vs"
  refine ⟨n, a, b, c, p, rfl, W, hp, ?_⟩
  walk_at "vs"
  refine ⟨n, a, b, c, p, rfl, W, hp, ?_⟩
  walk_at "vs"
  exact ⟨by decide, q⟩
theorem sem_mixed_pulls : Sem 2 2 [] b_mixed_pulls fs_mixed_pulls := by
  rintro ds Qv hl ⟨n, a, b, c, p, rfl, W, hp, q⟩
  have hn := slots_pos W.mem
  have hdv := dv_pos (p := p) hn.1 hn.2
  unfold b_mixed_pulls
  walk_at "vs"
  refine ⟨n, a, b, c, p, rfl, W, hp, ?_⟩
  walk_at "vs"
  refine ⟨n, a, b, c, p, rfl, W, hp, ?_⟩
  walk_at "vs"
  refine ⟨by omega, n, a, b, c, p, rfl, W, hp, ?_⟩
  walk_at "vs"
  refine ⟨_, rfl, ?_⟩
  simpa using q
theorem sem_is_ripple : Sem 3 3 [] b_is_ripple fs_is_ripple := by
  rintro ds Qv hl ⟨n, a, b, c, p, m, rfl, W, hp, q⟩
  unfold b_is_ripple
  walk_at "vs"
  refine ⟨n, a, b, c, rfl, W, ?_⟩
  walk_at "vs"
  refine ⟨p, rfl, hp, ?_⟩
  walk_at "vs"
  refine ⟨_, rfl, rfl, ?_⟩
  walk_at "vs"
  have e : decide ((m : Int) < 0) = false := by simp
  simp only [isTy, Bool.not_false, Bool.and_self, Bool.not_true, Bool.false_eq_true, if_false, e]
  refine ⟨n, a, b, c, rfl, W, ?_⟩
  walk_at "vs"
  refine ⟨n, a, b, c, p, m, rfl, W, hp, ?_⟩
  walk_at "vs"
  exact q
theorem fm_nat (p : Nat → Bool) (n : Nat) : (List.range n).filterMap (fun (k : Nat) => if p k = true then some (D.int (k : Nat)) else none) = (((List.range n).filter p).map fun (k : Nat) => (k : Int)).map D.int := by
  generalize List.range n = L
  induction L with
  | nil => rfl
  | cons k L ih => by_cases h0 : p k = true <;> simp [List.filterMap_cons, List.filter_cons, h0] <;> simpa using ih
theorem sem_ripples : Sem 2 4 [] b_ripples fs_ripples := by
  rintro ds Qv hl ⟨n, a, b, c, p, rfl, W, hp, q⟩
  have hn := slots_pos W.mem
  have hl := pts_len W
  have hdv := dv_pos (p := p) hn.1 hn.2
  unfold b_ripples
  walk_at "vs"
  refine ⟨n, a, b, c, p, rfl, W, hp, ?_⟩
  walk_at "vs"
  refine optI_at (by decide) rfl ?_
  walk_at "vs"
  refine ⟨n, a, b, c, p, rfl, W, hp, ?_⟩
  walk_at "vs"
  simp only [List.length_map, W.la]
  have e0 : (n : Int) / ((dv n p : Nat) : Int) = ((n / dv n p : Nat) : Int) := by simp
  have hle : n / dv n p ≤ n := Nat.div_le_self _ _
  unfold rips at q
  rw [hl] at q
  rw [e0]
  generalize n / dv n p = r at *
  refine ⟨⟨by omega, log_9000 (by omega) (by omega)⟩, by unfold smallI; omega, ?_⟩
  simp only [Int.toNat_natCast]
  unfold rgD
  refine lc_fmT (fun (k : Nat) => if rip (ptsOf a b c) p k = true then some (.int k) else none) (by simp [LN_eq]; omega) (fun k acc kk _ hacc hkk => ?_) ?_
  · have e : (0 : Int) + (k : Int) * 1 = k := by omega
    rw [e]
    walk_at "vs"
    refine ⟨n, a, b, c, p, k, rfl, W, hp, ?_⟩
    walk_at "vs"
    cases z : rip (ptsOf a b c) p k
    · rw [z] at hkk
      simpa using hkk
    · rw [z] at hkk
      simp only [if_true]
      exact ⟨hacc, by simpa using hkk⟩
  · rw [fm_nat]
    exact ⟨by decide, q⟩
theorem sem_least_ripple : Sem 2 3 [] b_least_ripple fs_least_ripple := by
  rintro ds Qv hl ⟨n, a, b, c, p, rfl, W, hp, q⟩
  have hn := slots_pos W.mem
  have hl := pts_len W
  have hdv := dv_pos (p := p) hn.1 hn.2
  unfold b_least_ripple
  walk_at "vs"
  refine ⟨n, a, b, c, p, rfl, W, hp, ?_⟩
  walk_at "vs"
  refine optI_at (by decide) rfl ?_
  walk_at "vs"
  refine ⟨n, a, b, c, p, rfl, W, hp, ?_⟩
  walk_at "vs"
  simp only [List.length_map, W.la]
  have e0 : (n : Int) / ((dv n p : Nat) : Int) = ((n / dv n p : Nat) : Int) := by simp
  have hle : n / dv n p ≤ n := Nat.div_le_self _ _
  unfold least at q
  rw [hl] at q
  rw [e0]
  generalize n / dv n p = r at *
  refine ⟨⟨by omega, log_9000 (by omega) (by omega)⟩, by unfold smallI; omega, by unfold smallI; omega, ?_⟩
  have e1 : ((r : Int) + 1 - 1).toNat = r := by omega
  rw [e1]
  unfold rgD
  refine loop_invT (fun i Γ => (∃ o2, Γ = [.sh (wD a b c), .sh (.int p), oS o2]) ∧ ∀ j < i, rip (ptsOf a b c) p (j + 1) = false) ⟨⟨none, rfl⟩, by simp⟩ ?_ ?_
  · rintro i k Γ kk e ⟨⟨o2, rfl⟩, hi⟩ hk
    obtain ⟨rfl, hlt⟩ := range_get e
    have e2 : (1 : Int) + (k : Int) * 1 = ((k + 1 : Nat) : Int) := by omega
    rw [e2]
    walk_at "vs"
    refine ⟨n, a, b, c, p, k + 1, rfl, W, hp, ?_⟩
    walk_at "vs"
    cases z : rip (ptsOf a b c) p (k + 1)
    · simp only [Bool.false_eq_true, if_false]
      refine hk _ ⟨⟨some (.int ((k + 1 : Nat) : Int)), rfl⟩, fun j hj => ?_⟩
      by_cases h : j = k
      · subst h; exact z
      · exact hi j (by omega)
    · simp only [if_true]
      have e3 : (List.range r).find? (fun k => rip (ptsOf a b c) p (k + 1)) = some k := by
        rw [List.find?_range_eq_some]
        exact ⟨z, by simpa using hlt, fun j hj => by simp [hi j hj]⟩
      rw [e3] at q
      simpa using q
  · rintro Γ ⟨⟨o2, rfl⟩, hi⟩
    walk_at "vs"
    have e3 : (List.range r).find? (fun k => rip (ptsOf a b c) p (k + 1)) = none := by
      rw [List.find?_eq_none]
      intro k hk
      have := List.mem_range.mp hk
      simp [hi k (by simpa using this)]
    rw [e3] at q
    exact q
end K76

-- S6
namespace K76
open PySem PySem.Spec L2 VL PyProof.Rows
theorem cm_l {i j : Int} (h : -(2 ^ 64) < i ∧ i < 2 ^ 64) : CMul i j ∨ CMulW i j := Or.inl (Or.inl h)
theorem cm_r {i j : Int} (h : -(2 ^ 64) < j ∧ j < 2 ^ 64) : CMul i j ∨ CMulW i j := Or.inl (Or.inr h)
theorem sem_law_urn : Sem 2 6 [] b_law_urn fs_law_urn := by
  rintro ds Qv hl ⟨ns, t, rfl, ht, q⟩
  unfold b_law_urn
  refine seq_of (fun Γ => ∃ own : Int, Γ = [.sh (.fz (ns.map D.int)), .sh (.int t), .sh (.int own), .un, .un, .un]) (fun k hk => ?_) ?_
  · walk_at "vs"
    simp only [List.length_map]
    by_cases h : (t : Int) < (ns.length : Int)
    · simp only [h, decide_true, if_true]
      refine optI_int (by omega) h ?_
      walk_at "vs"
      exact hk _ ⟨_, rfl⟩
    · simp only [h, decide_false, Bool.false_eq_true, if_false]
      exact ⟨cm_l (by decide), hk _ ⟨_, rfl⟩⟩
  · rintro Γ ⟨own, rfl⟩
    walk_at "vs"
    refine ⟨cm_l (by decide), ?_⟩
    rw [cutL_map]
    refine loop_invT (fun i Γ => ∃ (st : Int) (o4 : Option D), Γ = [.sh (.fz (ns.map D.int)), .sh (.int t), .sh (.int own), .sh (.int st), oS o4, .un]) ⟨_, none, rfl⟩ ?_ ?_
    · rintro i x Γ k e ⟨st, o4, rfl⟩ hk
      walk_at "vs"
      exact ⟨cm_r (by decide), by decide, by decide, hk _ ⟨_, some (.int x), rfl⟩⟩
    · rintro Γ ⟨st, o4, rfl⟩
      walk_at "vs"
      refine ⟨cm_r (by decide), by decide, cm_r (by decide), by decide, ?_⟩
      have hp : CPow 10 17 := ⟨by decide, by decide, by decide⟩
      by_cases h : own < 0
      · simp only [h, decide_true, if_true]
        exact ⟨by decide, q _ ⟨_, _, _, rfl⟩⟩
      · simp only [h, decide_false, Bool.false_eq_true, if_false]
        refine ⟨hp, ?_⟩
        by_cases h2 : (10 : Int) ^ (17 : Int).toNat ≤ own
        · simp only [h2, decide_true, if_true]
          exact ⟨by decide, q _ ⟨_, _, _, rfl⟩⟩
        · simp only [h2, decide_false, Bool.false_eq_true, if_false]
          exact ⟨by decide, q _ ⟨_, _, _, rfl⟩⟩
theorem sem_law_draw : Sem 2 3 [0] b_law_draw fs_law_draw := by
  rintro ds Qv hl ⟨u, m, rfl, ⟨a, b, c, rfl⟩, h0, h1, q⟩
  have fin : ∀ (x a b c : Int), Qv (.int (x % m)) false [.lst [.int a, .int b, .int c]] := fun x a b c => by
    have h2 := Int.emod_nonneg x (show m ≠ 0 by omega)
    have h3 := Int.emod_lt_of_pos x h0
    have := q (x % m).toNat [.int a, .int b, .int c] (by omega) ⟨a, b, c, rfl⟩
    have e : (((x % m).toNat : Nat) : Int) = x % m := by omega
    rw [e] at this
    exact this
  unfold b_law_draw
  walk_at "vs"
  refine optI_at (by decide) rfl ?_
  walk_at "vs"
  by_cases h : 0 < a
  · simp only [h, decide_true, if_true]
    refine optI_at (by decide) rfl ?_
    walk_at "vs"
    refine ⟨⟨h0, h1⟩, onN_pos (by decide) (by decide) ?_⟩
    exact fin _ _ _ _
  · simp only [h, decide_false, Bool.false_eq_true, if_false]
    refine optI_at (by decide) rfl ?_
    walk_at "vs"
    refine onN_pos (by decide) (by decide) ?_
    refine optI_at (by decide) rfl ?_
    refine ⟨cm_r (by decide), ?_⟩
    refine optI_at (by decide) rfl ?_
    refine ⟨cm_r (by decide), by decide, onN_pos (by decide) (by simp) ?_⟩
    refine optI_at (by decide) rfl ?_
    refine optI_at (by decide) rfl ?_
    have hb : ∀ x : Int, -(2 ^ 64) < x % 2147483647 ∧ x % 2147483647 < 2 ^ 64 := fun x => by omega
    exact ⟨by decide, cm_l (hb _), by decide, ⟨by decide, log_9000 (by decide) (by decide)⟩, h0, fin _ _ _ _⟩
theorem sem_law_pick : Sem 2 2 [0] b_law_pick fs_law_pick := by
  rintro ds Qv hl ⟨u, xs, rfl, hu, h0, h1, q⟩
  unfold b_law_pick
  walk_at "vs"
  refine ⟨u, _, rfl, hu, by omega, by omega, fun r u' hr hu' => ?_⟩
  walk_at "vs"
  have hlt : r < xs.length := by omega
  refine optI_at (by omega) (by rw [Int.toNat_natCast]; exact List.getElem?_eq_getElem hlt) ?_
  exact q _ _ (List.getElem_mem hlt) hu'
theorem U_any {es : List D} (h : U es) : ∃ a b c : Int, es = [.int a, .int b, .int c] := h
theorem sem_law_turns : Sem 1 3 [0] b_law_turns fs_law_turns := by
  rintro ds Qv hl ⟨u, rfl, hu, q⟩
  unfold b_law_turns
  walk_at "vs"
  refine ⟨by decide, u, _, rfl, hu, by decide, by decide, fun x u' hx hu' => ?_⟩
  obtain ⟨t, rfl, ht, ht5⟩ : ∃ t : Int, x = .int t ∧ (-(2 ^ 64) < t ∧ t < 2 ^ 64) ∧ t.natAbs ≤ 5 := by
    simp only [List.mem_cons, List.not_mem_nil, or_false] at hx
    rcases hx with rfl | rfl | rfl | rfl | rfl | rfl <;> exact ⟨_, rfl, by decide, by decide⟩
  walk_at "vs"
  refine ⟨u', _, rfl, hu', by decide, by decide, fun r u2 hr hu2 => ?_⟩
  walk_at "vs"
  by_cases h : (r : Int) = 5
  · simp only [h, decide_true, if_true]
    refine ⟨⟨by decide, by decide, by decide⟩, u2, _, rfl, hu2, by decide, by decide, fun far u3 hfar hu3 => ?_⟩
    walk_at "vs"
    refine ⟨⟨by decide, by decide, by decide⟩, ⟨by decide, by decide, by decide⟩, cm_r (by decide), ⟨by decide, by decide, by decide⟩, u3, _, rfl, hu3, by decide, by decide, fun r4 u4 hr4 hu4 => ?_⟩
    walk_at "vs"
    refine ⟨cm_l ht, q _ _ ?_ hu4⟩
    rw [Int.natAbs_mul]
    have h9 := Nat.mul_le_mul_right ((10 : Int) ^ (14 : Int).toNat + (far : Int) * 10 ^ (6 : Int).toNat + (r4 : Int)).natAbs ht5
    refine Nat.lt_of_le_of_lt h9 ?_
    have e1 : ((10 : Int) ^ (14 : Int).toNat) = 100000000000000 := by decide
    have e2 : ((10 : Int) ^ (6 : Int).toNat) = 1000000 := by decide
    rw [e1, e2]
    rw [e2] at hfar hr4
    omega
  · simp only [h, decide_false, Bool.false_eq_true, if_false]
    exact q _ _ (by omega) hu2
theorem sum_set : ∀ (f : List Int) (i : Nat) (v : Int), i < f.length → (f.set i (f.getD i 0 + v)).sum = f.sum + v
  | [], i, v, h => by simp at h
  | x :: f, 0, v, h => by simp; omega
  | x :: f, i + 1, v, h => by
    have := sum_set f i v (by simpa using h)
    simp only [List.set_cons_succ, List.getD_cons_succ, List.sum_cons] at this ⊢
    omega
theorem sum_addAt (f : List Int) (i : Nat) (v : Int) (h : i < f.length) : (addAt f i v).sum = f.sum + v := sum_set f i v h
theorem bd_addAt {f : List Int} {i : Nat} {v : Int} {A B : Nat} (hi : i < f.length) (hf : ∀ x ∈ f, x.natAbs ≤ A) (hv : v.natAbs ≤ B) : ∀ x ∈ addAt f i v, x.natAbs ≤ A + B := by
  intro x hx
  unfold addAt at hx
  rcases List.mem_or_eq_of_mem_set hx with h | rfl
  · have := hf x h; omega
  · have := hf (f.getD i 0) (by rw [List.getD_eq_getElem?_getD, List.getElem?_eq_getElem hi]; exact List.getElem_mem hi)
    omega
theorem sem_law_wired : Sem 4 10 [0] b_law_wired fs_law_wired := by
  rintro ds Qv hl ⟨u, n, lo, hi, rfl, hu, hn, hn2, hlo, hhi, q⟩
  obtain ⟨C, hC⟩ : ∃ C : Nat, C = 2000000000000000 := ⟨_, rfl⟩
  unfold b_law_wired
  walk_at "vs"
  simp only [Int.toNat_natCast, rep_flat, rep_ints, LN_eq]
  refine ⟨by omega, by omega, by omega, u, _, rfl, hu, by omega, by omega, fun r u' hr hu' => ?_⟩
  walk_at "vs"
  refine ⟨by unfold smallI; omega, ?_⟩
  unfold rgD
  refine loop_invT (fun i Γ => ∃ (u : List D) (f : List Int) (o5 o6 o7 o8 o9 : Option D), U u ∧ f.length = n ∧ f.sum = 0 ∧ (∀ x ∈ f, x.natAbs ≤ i * C) ∧ Γ = [.io u, .sh (.int n), .sh (.int lo), .sh (.int hi), .ac (f.map D.int), oS o5, oS o6, oS o7, oS o8, oS o9])
    ⟨u', _, none, none, none, none, none, hu', by simp, by simp, by intro x hx; simp at hx; omega, rfl⟩ ?_ ?_
  · rintro i a Γ k e ⟨u, f, o5, o6, o7, o8, o9, hu, hf, hs, hb, rfl⟩ hk
    walk_at "vs"
    refine ⟨u, _, rfl, hu, by omega, by omega, fun at_ u1 hat hu1 => ?_⟩
    walk_at "vs"
    refine ⟨u1, _, rfl, hu1, by omega, by omega, fun st u2 hst hu2 => ?_⟩
    walk_at "vs"
    refine ⟨u2, rfl, hu2, fun t u3 htb hu3 => ?_⟩
    walk_at "vs"
    have h1 := Int.emod_nonneg ((at_ : Int) + (1 + (st : Int))) (show (n : Int) ≠ 0 by omega)
    have h2 := Int.emod_lt_of_pos ((at_ : Int) + (1 + (st : Int))) (show (0 : Int) < (n : Int) by omega)
    obtain ⟨far, hfar⟩ : ∃ far : Nat, ((at_ : Int) + (1 + (st : Int))) % (n : Int) = (far : Int) := ⟨(((at_ : Int) + (1 + (st : Int))) % (n : Int)).toNat, by omega⟩
    rw [hfar]
    refine ⟨by omega, optI_int (by omega) (by omega) ?_⟩
    walk_at "vs"
    refine onN_pos (by omega) (by rw [List.length_map]; omega) ?_
    simp only [Int.toNat_natCast]
    rw [set_add]
    have hl2 := addAt_len f at_ t
    refine optI_int (by omega) (by omega) ?_
    walk_at "vs"
    refine onN_pos (by omega) (by rw [List.length_map]; omega) ?_
    simp only [Int.toNat_natCast, Int.sub_eq_add_neg]
    rw [set_add]
    refine hk _ ⟨u3, addAt (addAt f at_ t) far (-t), some (.int _), some (.int _), some (.int _), some (.int _), some (.int _), hu3, ?_, ?_, ?_, rfl⟩
    · rw [addAt_len, addAt_len, hf]
    · rw [sum_addAt _ _ _ (by omega), sum_addAt _ _ _ (by omega)]
      omega
    · have b1 := bd_addAt (f := f) (i := at_) (v := t) (by omega) hb (Nat.le_of_lt htb)
      have b2 := bd_addAt (f := addAt f at_ t) (i := far) (v := -t) (by omega) b1 (by rw [Int.natAbs_neg]; exact Nat.le_of_lt htb)
      intro x hx
      have := b2 x hx
      rw [Nat.succ_mul]
      omega
  · rintro Γ ⟨u, f, o5, o6, o7, o8, o9, hu, hf, hs, hb, rfl⟩
    walk_at "vs"
    refine q f u hf hs (fun x hx => ?_) hu
    have h1 := hb x hx
    rw [List.length_range] at h1
    have h2 : ((lo : Int) + (r : Int) - 0).toNat ≤ 1000 := by omega
    simp only [Int.sub_zero] at h1 h2
    have h4 := Nat.mul_le_mul_right C h2
    omega
theorem sem_law_sixths : Sem 2 4 [] b_law_sixths fs_law_sixths := by
  rintro ds Qv hl ⟨p, m, rfl, q⟩
  unfold b_law_sixths
  walk_at "vs"
  have h1 := Int.emod_nonneg m (show (6 : Int) ≠ 0 by decide)
  have h2 := Int.emod_lt_of_pos m (show (0 : Int) < 6 by decide)
  refine ⟨by decide, by unfold smallI; omega, ?_⟩
  unfold rgD
  have six_s : ∀ (k : Nat) (p : Int × Int), rot (six k p) = six (k + 1) p := by
    intro k
    induction k with
    | zero => intro p; rfl
    | succ k ih => intro p; exact ih (rot p)
  refine loop_invT (fun i Γ => ∃ o3, Γ = [.sh (pD p), .sh (.int m), .sh (pD (six i p)), oS o3]) ⟨none, rfl⟩ ?_ ?_
  · rintro i a Γ k e ⟨o3, rfl⟩ hk
    try walk_at "vs"
    refine optI_at (by decide) rfl ?_
    try walk_at "vs"
    refine optI_at (by decide) rfl ?_
    try walk_at "vs"
    refine optI_at (by decide) rfl ?_
    try walk_at "vs"
    refine ⟨by decide, hk _ ⟨some (.int (0 + (a : Int) * 1)), ?_⟩⟩
    rw [← six_s]
    rfl
  · rintro Γ ⟨o3, rfl⟩
    walk_at "vs"
    rw [List.length_range]
    exact q
end K76

-- P2
/-! P2: sums of points. -/
namespace K76
def psum (V : List (Int × Int)) : Int × Int := ((V.map (·.1)).sum, (V.map (·.2)).sum)
theorem psum_nil : psum [] = (0, 0) := rfl
theorem psum_cons (p : Int × Int) (V : List (Int × Int)) : psum (p :: V) = (p.1 + (psum V).1, p.2 + (psum V).2) := by simp [psum]
theorem psum_append (V W : List (Int × Int)) : psum (V ++ W) = ((psum V).1 + (psum W).1, (psum V).2 + (psum W).2) := by simp [psum]
theorem psum_rot (V : List (Int × Int)) : psum (V.map rot) = rot (psum V) := by
  induction V with
  | nil => rfl
  | cons p V ih =>
    rw [List.map_cons, psum_cons, psum_cons, ih]
    simp only [rot]
    refine Prod.ext ?_ ?_
    · show p.1 - p.2 + ((psum V).1 - (psum V).2) = p.1 + (psum V).1 - (p.2 + (psum V).2)
      omega
    · rfl
theorem psum_six : ∀ (k : Nat) (V : List (Int × Int)), psum (V.map (six k)) = six k (psum V)
  | 0, V => by
    have : V.map (six 0) = V := by
      rw [show six 0 = id from by funext p; rfl, List.map_id]
    rw [this]
    rfl
  | k + 1, V => by
    have : V.map (six (k + 1)) = (V.map rot).map (six k) := by rw [List.map_map]; rfl
    rw [this, psum_six k, psum_rot]
    rfl
theorem six_zero : ∀ k, six k (0, 0) = (0, 0)
  | 0 => rfl
  | k + 1 => six_zero k
theorem six_lin : ∀ (k : Nat) (x y : Int), six k (x, y) = (x * (six k (1, 0)).1 + y * (six k (0, 1)).1, x * (six k (1, 0)).2 + y * (six k (0, 1)).2)
  | 0, x, y => by simp [six]
  | k + 1, x, y => by
    show six k (rot (x, y)) = (x * (six k (rot (1, 0))).1 + y * (six k (rot (0, 1))).1, x * (six k (rot (1, 0))).2 + y * (six k (rot (0, 1))).2)
    have h1 := six_lin k (x - y) x
    have h2 := six_lin k (1 - 0) 1
    have h3 := six_lin k (0 - 1) 0
    simp only [rot]
    rw [h1, h2, h3]
    generalize (six k (1, 0)).1 = a
    generalize (six k (1, 0)).2 = b
    generalize (six k (0, 1)).1 = c
    generalize (six k (0, 1)).2 = d
    simp only [Int.sub_mul, Prod.mk.injEq, Int.zero_mul, Int.one_mul, Int.zero_sub, Int.neg_mul, Int.mul_add, Int.mul_neg, Int.mul_sub, Int.sub_zero, Int.add_zero]
    constructor <;> omega
/-- the turns of a point, all of them together -/
def turnsum (s m : Nat) (v : Int × Int) : Int × Int := psum ((List.range m).map fun t => six (s * t % 6) v)
theorem turn_lin (L : List Nat) (x y : Int) : psum (L.map fun t => six t (x, y)) = (x * (psum (L.map fun t => six t (1, 0))).1 + y * (psum (L.map fun t => six t (0, 1))).1, x * (psum (L.map fun t => six t (1, 0))).2 + y * (psum (L.map fun t => six t (0, 1))).2) := by
  induction L with
  | nil => simp [psum]
  | cons t L ih =>
    simp only [List.map_cons, psum_cons]
    rw [ih, six_lin t x y]
    simp only [Int.mul_add, Prod.mk.injEq]
    constructor <;> omega
theorem turn_table : ∀ m ∈ List.range 21, ∀ s ∈ List.range 6, 1 ≤ s → s * m % 6 = 0 → psum ((List.range m).map fun t => six (s * t % 6) (1, 0)) = (0, 0) ∧ psum ((List.range m).map fun t => six (s * t % 6) (0, 1)) = (0, 0) := by decide +kernel
theorem turns_zero {s m : Nat} (hm : m ≤ 20) (h1 : 1 ≤ s) (h2 : s < 6) (h : s * m % 6 = 0) (v : Int × Int) : psum ((List.range m).map fun t => six (s * t % 6) v) = (0, 0) := by
  obtain ⟨x, y⟩ := v
  obtain ⟨e1, e2⟩ := turn_table m (List.mem_range.mpr (by omega)) s (List.mem_range.mpr h2) h1 h
  have := turn_lin ((List.range m).map fun t => s * t % 6) x y
  simp only [List.map_map, Function.comp_def] at this
  rw [this, e1, e2]
  simp
theorem rep_zero {s m : Nat} (hm : m ≤ 20) (h2 : s < 6) (h : s * m % 6 = 0) (F : List (Int × Int)) (hF : s = 0 → psum F = (0, 0)) : psum ((List.range m).flatMap fun t => F.map (six (s * t % 6))) = (0, 0) := by
  have key : ∀ L : List Nat, psum (L.flatMap fun t => F.map (six (s * t % 6))) = psum (L.map fun t => six (s * t % 6) (psum F)) := by
    intro L
    induction L with
    | nil => rfl
    | cons t L ih =>
      rw [List.flatMap_cons, psum_append, ih, psum_six, List.map_cons, psum_cons]
  rw [key]
  by_cases h1 : 1 ≤ s
  · exact turns_zero hm h1 h2 h _
  · have h0 : s = 0 := by omega
    subst h0
    rw [hF rfl]
    generalize List.range m = L
    induction L with
    | nil => rfl
    | cons t L ih =>
      rw [List.map_cons, psum_cons, ih, six_zero]
      rfl
theorem sum_ext_range (f : List Int) : ((List.range f.length).map fun k => f.getD k 0) = f := by
  apply List.ext_getElem
  · simp
  · intro i h1 h2
    simp [List.getD_eq_getElem?_getD, List.getElem?_eq_getElem h2]
/-- turned by t -/
theorem rot_list {α : Type} (f : List α) (d : α) (t : Nat) (ht : t < f.length) : ((List.range f.length).map fun s => f.getD ((s + (f.length - t)) % f.length) d) = f.drop (f.length - t) ++ f.take (f.length - t) := by
  apply List.ext_getElem
  · simp
    try omega
  · intro i h1 h2
    have hi : i < f.length := by simpa using h1
    rw [List.getElem_map, List.getElem_range]
    by_cases h : i < t
    · have e : (i + (f.length - t)) % f.length = i + (f.length - t) := Nat.mod_eq_of_lt (by omega)
      rw [e, List.getElem_append_left (by simp; omega), List.getElem_drop, List.getD_eq_getElem?_getD, List.getElem?_eq_getElem (by omega)]
      simp [Nat.add_comm]
    · have e : (i + (f.length - t)) % f.length = i - t := by
        have : i + (f.length - t) = (i - t) + f.length := by omega
        rw [this, Nat.add_mod_right, Nat.mod_eq_of_lt (by omega)]
      rw [e, List.getElem_append_right (by simp; omega), List.getElem_take, List.getD_eq_getElem?_getD, List.getElem?_eq_getElem (by omega)]
      simp
      congr 1
      try omega
/-- mirrored at t -/
theorem mir_list {α : Type} (f : List α) (d : α) (t : Nat) (ht : t < f.length) : ((List.range f.length).map fun s => f.getD ((t + f.length - s) % f.length) d) = (f.take (t + 1)).reverse ++ (f.drop (t + 1)).reverse := by
  apply List.ext_getElem
  · simp
    try omega
  · intro i h1 h2
    have hi : i < f.length := by simpa using h1
    rw [List.getElem_map, List.getElem_range]
    by_cases h : i ≤ t
    · have e : (t + f.length - i) % f.length = t - i := by
        have : t + f.length - i = (t - i) + f.length := by omega
        rw [this, Nat.add_mod_right, Nat.mod_eq_of_lt (by omega)]
      rw [e, List.getElem_append_left (by simp; omega), List.getElem_reverse, List.getElem_take, List.getD_eq_getElem?_getD, List.getElem?_eq_getElem (by omega)]
      simp
      congr 1
      omega
    · have e : (t + f.length - i) % f.length = t + f.length - i := Nat.mod_eq_of_lt (by omega)
      rw [e, List.getElem_append_right (by simp; omega), List.getElem_reverse, List.getElem_drop, List.getD_eq_getElem?_getD, List.getElem?_eq_getElem (by omega)]
      simp
      congr 1
      omega
theorem sum_rot (f : List Int) (t : Nat) (ht : t < f.length) : ((List.range f.length).map fun s => f.getD ((s + (f.length - t)) % f.length) 0).sum = f.sum := by
  rw [rot_list f 0 t ht, List.sum_append]
  have : f.sum = (f.take (f.length - t)).sum + (f.drop (f.length - t)).sum := by rw [← List.sum_append, List.take_append_drop]
  omega
theorem psum_mir (f : List (Int × Int)) (t : Nat) (ht : t < f.length) : psum ((List.range f.length).map fun s => f.getD ((t + f.length - s) % f.length) (0, 0)) = psum f := by
  rw [mir_list f _ t ht, psum_append]
  have h1 : ∀ V : List (Int × Int), psum V.reverse = psum V := fun V => by simp [psum, List.map_reverse, List.sum_reverse]
  rw [h1, h1]
  have : psum f = psum (f.take (t + 1) ++ f.drop (t + 1)) := by rw [List.take_append_drop]
  rw [this, psum_append]
end K76

-- S7
namespace K76
open PySem PySem.Spec L2 VL PyProof.Rows
theorem Pt.ps {n : Nat} {P : List (Int × Int)} (h : Pt n P) : psum P = (0, 0) := by simp [psum, h.s1, h.s2]
theorem Pt.of {n : Nat} {P : List (Int × Int)} (hm : n ∈ slotsL) (hl : P.length = n) (h : psum P = (0, 0)) (hb : bdP 1000000 P) : Pt n P := by
  unfold psum at h
  exact ⟨hm, hl, (Prod.mk.inj h).1, (Prod.mk.inj h).2, hb⟩
theorem six_bd {B : Nat} : ∀ (k : Nat) (p : Int × Int), p.1.natAbs ≤ B → p.2.natAbs ≤ B → (p.1 - p.2).natAbs ≤ B → (six k p).1.natAbs ≤ B ∧ (six k p).2.natAbs ≤ B
  | 0, p, h1, h2, _ => ⟨h1, h2⟩
  | k + 1, p, h1, h2, h3 => six_bd k (rot p) h3 h1 (by show ((p.1 - p.2) - p.1).natAbs ≤ B; omega)
theorem getD_bd {B : Nat} (h0 : 0 < B) {P : List (Int × Int)} (h : bdP B P) (i : Nat) : (P.getD i (0, 0)).1.natAbs < B ∧ (P.getD i (0, 0)).2.natAbs < B := by
  rw [List.getD_eq_getElem?_getD]
  cases e : P[i]? with
  | none => exact ⟨h0, h0⟩
  | some p => exact h p (List.mem_of_getElem? e)
theorem zip_sum (f : Int × Int → Int) : ∀ (P : List (Int × Int)) (r : List Int), P.length = r.length → ((P.zip r).map fun q => f q.1 + q.2).sum = (P.map f).sum + r.sum
  | [], [], _ => rfl
  | [], _ :: _, h => by simp at h
  | _ :: _, [], h => by simp at h
  | p :: P, x :: r, h => by
    have := zip_sum f P r (by simpa using h)
    simp only [List.zip_cons_cons, List.map_cons, List.sum_cons, this]
    omega
theorem sem_law_spread : Sem 2 6 [0] b_law_spread fs_law_spread := by
  rintro ds Qv hl ⟨u, n, P, rfl, hu, hP, q⟩
  have hn := slots_pos hP.mem
  unfold b_law_spread
  walk_at "vs"
  simp only [List.length_map, hP.len]
  refine ⟨u, n, 0, 2, rfl, hu, by omega, by omega, by omega, by omega, fun r u' hr hs hb hu' => ?_⟩
  walk_at "vs"
  rw [zp2_map]
  refine lc_mapT (fun p => .int (p.1.1 + p.2)) (by simp [LN_eq, hP.len, hr]; omega) (fun p acc k _ hacc hk => ?_) ?_
  · walk_at "vs"
    refine optI_at (by decide) rfl ?_
    walk_at "vs"
    exact ⟨hacc, hk⟩
  walk_at "vs"
  rw [zp2_map]
  refine lc_mapT (fun p => .int (p.1.2 + p.2)) (by simp [LN_eq, hP.len, hr]; omega) (fun p acc k _ hacc hk => ?_) ?_
  · walk_at "vs"
    refine optI_at (by decide) rfl ?_
    walk_at "vs"
    exact ⟨hacc, hk⟩
  walk_at "vs"
  refine ⟨by decide, ?_⟩
  have hz := zip_sum (·.1) P r (by rw [hP.len, hr])
  have hz2 := zip_sum (·.2) P r (by rw [hP.len, hr])
  have := q ((P.zip r).map fun q => q.1.1 + q.2) r ((P.zip r).map fun q => q.1.2 + q.2) u' ⟨hP.mem, by simp [hP.len, hr], hr, by simp [hP.len, hr], by rw [hz, hP.s1, hs]; rfl, hs, by rw [hz2, hP.s2, hs]; rfl, ?_, fun x hx => by have := hb x hx; omega, ?_⟩ hu'
  · simpa [Function.comp_def, wD, ti] using this
  all_goals
    intro x hx
    obtain ⟨q, hq, rfl⟩ := List.mem_map.mp hx
    have hq1 := hP.bd q.1 (List.of_mem_zip hq).1
    have hq2 := hb q.2 (List.of_mem_zip hq).2
    omega
theorem optI_wrap {ds : List D} {i : Int} {d : D} {Q : D → Bool → Prop} (h0 : -(ds.length : Int) ≤ i) (h1 : i < ds.length) (e : ds[(i % (ds.length : Int)).toNat]? = some d) (h : Q d false) : optI (atI ds i) Q := by
  unfold atI ixN
  by_cases hi : 0 ≤ i
  · rw [if_pos hi, if_pos h1]
    rw [Int.emod_eq_of_lt hi h1] at e
    rw [Option.bind_some, e]
    exact h
  · rw [if_neg hi, if_pos h0]
    have e2 : i % (ds.length : Int) = i + ds.length := by
      have : (i + ds.length) % (ds.length : Int) = i % (ds.length : Int) := Int.add_emod_right _ _
      rw [← this, Int.emod_eq_of_lt (by omega) (by omega)]
    rw [e2] at e
    rw [Option.bind_some, e]
    exact h
def mq (P : List (Int × Int)) (n at_ k : Nat) : Int × Int := ((P.getD ((at_ + n - k) % n) (0, 0)).1 - (P.getD ((at_ + n - k) % n) (0, 0)).2, 0 - (P.getD ((at_ + n - k) % n) (0, 0)).2)
def mirF (P : List (Int × Int)) (n at_ s k : Nat) : Int × Int := ((P.getD k (0, 0)).1 + (six ((s : Int) % 6).toNat (mq P n at_ k)).1, (P.getD k (0, 0)).2 + (six ((s : Int) % 6).toNat (mq P n at_ k)).2)
theorem getD_of {P : List (Int × Int)} {j : Nat} (h : j < P.length) : P[j]? = some (P.getD j (0, 0)) := by
  rw [List.getD_eq_getElem?_getD, List.getElem?_eq_getElem h]
  rfl
theorem mir_sum {n : Nat} {P : List (Int × Int)} (hP : Pt n P) {at_ : Nat} (hat : at_ < n) (s : Nat) : psum ((List.range n).map (mirF P n at_ s)) = (0, 0) := by
  have add : ∀ (L : List Nat) (f g : Nat → Int × Int), psum (L.map fun k => ((f k).1 + (g k).1, (f k).2 + (g k).2)) = ((psum (L.map f)).1 + (psum (L.map g)).1, (psum (L.map f)).2 + (psum (L.map g)).2) := by
    intro L f g
    induction L with
    | nil => rfl
    | cons k L ih =>
      simp only [List.map_cons, psum_cons, ih, Prod.mk.injEq]
      constructor <;> omega
  have h1 : psum ((List.range n).map fun k => P.getD k (0, 0)) = (0, 0) := by
    have : (List.range n).map (fun k => P.getD k (0, 0)) = P := by
      apply List.ext_getElem
      · simp [hP.len]
      · intro i h1 h2
        simp [List.getD_eq_getElem?_getD, List.getElem?_eq_getElem h2]
    rw [this, hP.ps]
  have h2 : psum ((List.range n).map (mq P n at_)) = (0, 0) := by
    have h3 := psum_mir P at_ (by rw [hP.len]; exact hat)
    rw [hP.len, hP.ps] at h3
    have lin : ∀ V : List (Int × Int), psum (V.map fun v => (v.1 - v.2, 0 - v.2)) = ((psum V).1 - (psum V).2, 0 - (psum V).2) := by
      intro V
      induction V with
      | nil => rfl
      | cons v V ih =>
        simp only [List.map_cons, psum_cons, ih, Prod.mk.injEq]
        constructor <;> omega
    have h4 := lin ((List.range n).map fun s => P.getD ((at_ + n - s) % n) (0, 0))
    rw [h3, List.map_map] at h4
    exact h4
  have h5 := psum_six ((s : Int) % 6).toNat ((List.range n).map (mq P n at_))
  rw [h2, six_zero, List.map_map] at h5
  have h6 := add (List.range n) (fun k => P.getD k (0, 0)) (fun k => six ((s : Int) % 6).toNat (mq P n at_ k))
  have h7 : psum ((List.range n).map fun k => six ((s : Int) % 6).toNat (mq P n at_ k)) = (0, 0) := h5
  rw [h1, h7] at h6
  exact h6
theorem sem_law_mirrored : Sem 2 10 [0] b_law_mirrored fs_law_mirrored := by
  rintro ds Qv hl ⟨u, n, P, rfl, hu, hP, hb20, q⟩
  have hn := slots_pos hP.mem
  unfold b_law_mirrored
  walk_at "vs"
  simp only [List.length_map, hP.len]
  refine ⟨u, _, rfl, hu, by omega, by omega, fun at_ u1 hat hu1 => ?_⟩
  walk_at "vs"
  refine ⟨u1, _, rfl, hu1, by decide, by decide, fun s u2 hs hu2 => ?_⟩
  walk_at "vs"
  simp only [List.length_map, hP.len, Int.toNat_natCast]
  refine ⟨by decide, by unfold smallI; omega, ?_⟩
  unfold rgD
  have hat2 : at_ < n := by omega
  refine loop_invT (fun i Γ => ∃ o3 o7 o8 o9, Γ = [.io u2, .sh (lp P), .ac (((List.range i).map (mirF P n at_ s)).map pD), oS o3, .sh (.int at_), .sh (.int s), .sh (.int n), oS o7, oS o8, oS o9])
    ⟨none, none, none, none, rfl⟩ ?_ ?_
  · rintro i a Γ k e ⟨o3, o7, o8, o9, rfl⟩ hk
    obtain ⟨rfl, hi⟩ := range_get e
    have e0 : (0 : Int) + (a : Int) * 1 = a := by omega
    rw [e0]
    have hm : ((at_ : Int) - (a : Int)) % (n : Int) = (((at_ + n - a) % n : Nat) : Int) := by
      have e1 : (((at_ + n - a) % n : Nat) : Int) = ((at_ : Int) - a + n) % n := by
        have : ((at_ + n - a : Nat) : Int) = (at_ : Int) - a + n := by omega
        rw [← this]
        rfl
      rw [e1, Int.add_emod_right]
    have hlt : (at_ + n - a) % n < n := Nat.mod_lt _ (by omega)
    have hx := getD_of (P := P) (j := (at_ + n - a) % n) (by rw [hP.len]; exact hlt)
    have hy := getD_of (P := P) (j := a) (by rw [hP.len]; exact hi)
    walk_at "vs"
    refine optI_wrap (d := pD (P.getD ((at_ + n - a) % n) (0, 0))) (by simp [hP.len]; omega) (by simp [hP.len]; omega) ?_ ?_
    · simp only [List.length_map, hP.len, hm, Int.toNat_natCast, List.getElem?_map, hx]
      rfl
    walk_at "vs"
    refine ⟨by decide, mq P n at_ a, _, rfl, ?_⟩
    try walk_at "vs"
    refine optI_at (d := pD (P.getD a (0, 0))) (by omega) (by simp only [Int.toNat_natCast, List.getElem?_map, hy]; rfl) ?_
    try walk_at "vs"
    refine optI_at (by decide) rfl ?_
    try walk_at "vs"
    refine optI_at (by decide) rfl ?_
    try walk_at "vs"
    refine optI_at (d := pD (P.getD a (0, 0))) (by omega) (by simp only [Int.toNat_natCast, List.getElem?_map, hy]; rfl) ?_
    try walk_at "vs"
    refine optI_at (by decide) rfl ?_
    try walk_at "vs"
    refine optI_at (by decide) rfl ?_
    try walk_at "vs"
    refine ⟨by decide, by simp [LN_eq]; omega, hk _ ⟨some (.int a), some (pD (six ((s : Int) % 6).toNat (mq P n at_ a))), some (.int (P.getD ((at_ + n - a) % n) (0, 0)).1), some (.int (P.getD ((at_ + n - a) % n) (0, 0)).2), ?_⟩⟩
    rw [List.range_succ, List.map_append, List.map_append]
    rfl
  · rintro Γ ⟨o3, o7, o8, o9, rfl⟩
    rw [List.length_range]
    walk_at "vs"
    refine q _ u2 (Pt.of hP.mem (by simp) (mir_sum hP hat2 s) fun p hp => ?_) hu2
    obtain ⟨k, _, rfl⟩ := List.mem_map.mp hp
    have g1 := getD_bd (by decide) hb20 k
    have g2 := getD_bd (by decide) hb20 ((at_ + n - k) % n)
    have g3 := six_bd (B := 3000) ((s : Int) % 6).toNat (mq P n at_ k) (by unfold mq; dsimp only; omega) (by unfold mq; dsimp only; omega) (by unfold mq; dsimp only; omega)
    unfold mirF
    omega
theorem belt_table : ∀ n ∈ ([6, 12] : List Nat), ∀ p ∈ ([1, 2] : List Nat), n % (6 * p) = 0 → psum ((List.range n).map fun (s : Nat) => six ((0 - (6 * (p : Int) * (s : Int)) / (n : Int)) % 6).toNat (1, 0)) = (0, 0) := by decide +kernel
theorem sem_law_belted : Sem 2 5 [0] b_law_belted fs_law_belted := by
  rintro ds Qv hl ⟨u, n, rfl, hu, hn6, q⟩
  have hn : n ∈ slotsL ∧ 6 ≤ n ∧ n ≤ 12 := by rcases hn6 with rfl | rfl <;> decide
  unfold b_law_belted
  walk_at "vs"
  refine ⟨⟨by decide, log_9000 (by decide) (by decide)⟩, by unfold smallI; omega, by unfold smallI; omega, ?_⟩
  unfold rgD
  refine lc_fmT (fun (k : Nat) => if (n : Int) % (6 * (1 + (k : Int) * 1)) = 0 then some (.int (1 + (k : Int) * 1)) else none) (by simp [LN_eq]; omega) (fun k acc kk _ hacc hkk => ?_) ?_
  · walk_at "vs"
    refine ⟨cm_l (by decide), by omega, ?_⟩
    by_cases h : (n : Int) % (6 * (1 + (k : Int) * 1)) = 0
    · simp only [h, if_true, Option.toList_some] at hkk
      simp only [h, decide_true, if_true]
      exact ⟨hacc, hkk⟩
    · simp only [h, if_false, Option.toList_none, List.append_nil] at hkk
      simp only [h, decide_false, Bool.false_eq_true, if_false]
      exact hkk
  have en : ((n : Int) / 6 + 1 - 1).toNat = n / 6 := by omega
  rw [en]
  have hne : 0 < ((List.range (n / 6)).filterMap fun (k : Nat) => if (n : Int) % (6 * (1 + (k : Int) * 1)) = 0 then some (D.int (1 + (k : Int) * 1)) else none).length := by
    rcases hn6 with rfl | rfl <;> decide
  refine ⟨u, _, rfl, hu, hne, ?_, fun x u' hx hu' => ?_⟩
  · refine Nat.lt_of_le_of_lt (List.length_filterMap_le _ _) ?_
    simp
    omega
  obtain ⟨p, rfl, hp, hmod⟩ : ∃ p : Nat, x = .int p ∧ p ∈ [1, 2] ∧ n % (6 * p) = 0 := by
    rcases hn6 with rfl | rfl
    · have : x = .int 1 := by simpa using hx
      exact ⟨1, this, by decide, by decide⟩
    · have : x = .int 1 ∨ x = .int 2 := by
        have e : ((List.range (12 / 6)).filterMap fun (k : Nat) => if ((12 : Nat) : Int) % (6 * (1 + (k : Int) * 1)) = 0 then some (D.int (1 + (k : Int) * 1)) else none) = [.int 1, .int 2] := by rfl
        rw [e] at hx
        simpa using hx
      rcases this with rfl | rfl
      · exact ⟨1, rfl, by decide, by decide⟩
      · exact ⟨2, rfl, by decide, by decide⟩
  walk_at "vs"
  simp only [Int.toNat_natCast]
  refine ⟨by unfold smallI; omega, ?_⟩
  have hp2 : p ≤ 2 := by
    simp only [List.mem_cons, List.not_mem_nil, or_false] at hp
    omega
  refine lc_mapT (fun (s : Nat) => pD (six ((0 - (6 * (p : Int) * (s : Int)) / (n : Int)) % 6).toNat (1, 0))) (by simp [LN_eq]; omega) (fun s acc kk hs hacc hkk => ?_) ?_
  · have e0 : (0 : Int) + (s : Int) * 1 = s := by omega
    rw [e0]
    have hs2 : s < n := List.mem_range.mp hs
    walk_at "vs"
    refine ⟨by decide, cm_l (by decide), cm_l (by omega), ⟨by omega, log_9000 (by omega) (by omega)⟩, (1, 0), _, rfl, ?_⟩
    walk_at "vs"
    exact ⟨hacc, hkk⟩
  · have h2 := belt_table n (by rcases hn6 with rfl | rfl <;> decide) p hp hmod
    have hb : bdP 1000000 ((List.range n).map fun (s : Nat) => six ((0 - (6 * (p : Int) * (s : Int)) / (n : Int)) % 6).toNat (1, 0)) := by
      intro r hr
      obtain ⟨s, _, rfl⟩ := List.mem_map.mp hr
      have := six_bd (B := 1) ((0 - (6 * (p : Int) * (s : Int)) / (n : Int)) % 6).toNat (1, 0) (by decide) (by decide) (by decide)
      omega
    have := q _ u' (Pt.of hn.1 (by simp) h2 hb) hu'
    simp only [lp, List.map_map] at this
    exact this
end K76

-- S8
namespace K76
open PySem PySem.Spec L2 VL PyProof.Rows
theorem sum_mul (s : Int) (f : List Int) : (f.map fun x => s * x).sum = s * f.sum := by
  induction f with
  | nil => simp
  | cons x f ih => simp [ih, Int.mul_add]
def turnL (sg : Int) (t : Nat) (f : List Int) : List Int := (List.range f.length).map fun s => sg * f.getD ((s + (f.length - t)) % f.length) 0
theorem turnL_len (sg : Int) (t : Nat) (f : List Int) : (turnL sg t f).length = f.length := by simp [turnL]
theorem turnL_sum (sg : Int) (t : Nat) (f : List Int) (ht : t < f.length) (h : f.sum = 0) : (turnL sg t f).sum = 0 := by
  have h1 := sum_mul sg ((List.range f.length).map fun s => f.getD ((s + (f.length - t)) % f.length) 0)
  rw [sum_rot f t ht, h, List.map_map] at h1
  simpa [turnL, Function.comp_def] using h1
theorem turnL_bd {B : Nat} (h0 : 0 < B) {sg : Int} (hs : sg.natAbs = 1) (t : Nat) {f : List Int} (h : bdL B f) : bdL B (turnL sg t f) := by
  intro x hx
  obtain ⟨k, _, rfl⟩ := List.mem_map.mp hx
  rw [Int.natAbs_mul, hs, Nat.one_mul, List.getD_eq_getElem?_getD]
  cases e : f[(k + (f.length - t)) % f.length]? with
  | none => exact h0
  | some y => exact h y (List.mem_of_getElem? e)
theorem bd_up {f : List Int} (h : bdL 10000000000000000000 f) : bdL 100000000000000000000 f := fun x hx => by have := h x hx; omega
theorem turn_at {f : List Int} {n t s : Nat} (hl : f.length = n) (ht : t < n) (hs : s < n) : (((s : Int) - (t : Int)) % (n : Int)).toNat = (s + (n - t)) % n := by
  have : ((s + (n - t) : Nat) : Int) = (s : Int) - t + n := by omega
  have e : (((s + (n - t)) % n : Nat) : Int) = ((s : Int) - t) % n := by
    rw [Int.natCast_emod, this, Int.add_emod_right]
  rw [← e]
  exact Int.toNat_natCast _
theorem belt_n : ∀ n ∈ slotsL, n % 6 = 0 → n = 6 ∨ n = 12 := by decide
theorem ite_three {a b : Bool} {p A B : Prop} (hp : p) (hA : a = true → b = true → A) (hB : B) : if a = true then (p ∧ if b = true then A else B) else B := by
  cases a
  · exact hB
  · cases b
    · exact ⟨hp, hB⟩
    · exact ⟨hp, hA rfl rfl⟩
theorem sem_law_three : Sem 2 12 [0] b_law_three fs_law_three := by
  rintro ds Qv hl ⟨u, n, rfl, hu, hm, q⟩
  have hn := slots_pos hm
  unfold b_law_three
  walk_at "vs"
  refine ⟨u, _, rfl, hu, by decide, by decide, fun way u1 hway hu1 => ?_⟩
  walk_at "vs"
  by_cases h3 : (way : Int) < 3
  · simp only [h3, decide_true, if_true]
    refine ⟨by unfold smallI; omega, ?_⟩
    unfold rgD
    refine lc_inv (fun i acc Γ => ∃ (u : List D) (rs : List (List Int)), U u ∧ rs.length = i ∧ (∀ r ∈ rs, r.length = n ∧ r.sum = 0 ∧ bdL 10000000000000000000 r) ∧ acc = rs.map li ∧ Γ = [.io u, .sh (.int n), .sh (.int way), .un, .un, .un, .un, .un, .un, .un, .un, .un]) ⟨u1, [], hu1, rfl, by simp, rfl, rfl⟩ ?_ ?_
    · rintro i d acc Γ k e ⟨u, rs, hu, hrs, hr, rfl, rfl⟩ hk
      have hi : i < 3 := by
        have := (List.getElem?_eq_some_iff.mp e).1
        simpa using this
      rw [List.getElem?_map] at e
      cases z : (List.range (Int.toNat 3))[i]? with
      | none => rw [z] at e; cases e
      | some a =>
        rw [z] at e
        cases e
        walk_at "vs"
        refine ⟨u, n, 0, 3, rfl, hu, by omega, by omega, by omega, by omega, fun r u' h1 h2 h3 hu' => ?_⟩
        walk_at "vs"
        refine ⟨by simp [LN_eq]; omega, hk _ _ ⟨u', rs ++ [r], hu', by simp [hrs], ?_, by simp, rfl⟩⟩
        intro x hx
        rcases List.mem_append.mp hx with hx | hx
        · exact hr x hx
        · rw [List.mem_singleton] at hx
          subst hx
          exact ⟨h1, h2, h3⟩
    · rintro acc Γ ⟨u, rs, hu, hrs, hr, rfl, rfl⟩
      walk_at "vs"
      match rs, hrs with
      | [a, b, c], _ =>
        refine lc_mapT (L := [a, b, c]) (fun r => ti r) (by simp [LN_eq]) (fun r acc k _ hacc hk => ?_) ?_
        · walk_at "vs"
          exact ⟨hacc, hk⟩
        · walk_at "vs"
          exact q a b c u ⟨hm, (hr a (by simp)).1, (hr b (by simp)).1, (hr c (by simp)).1, (hr a (by simp)).2.1, (hr b (by simp)).2.1, (hr c (by simp)).2.1, bd_up (hr a (by simp)).2.2, bd_up (hr b (by simp)).2.2, bd_up (hr c (by simp)).2.2⟩ hu
  · simp only [h3, decide_false, Bool.false_eq_true, if_false]
    by_cases h5 : (way : Int) < 5
    · simp only [h5, decide_true, if_true]
      refine ⟨u1, n, 1, 3, rfl, hu1, by omega, by omega, by omega, by omega, fun r u2 hr hs hbd hu2 => ?_⟩
      walk_at "vs"
      refine ⟨u2, _, rfl, hu2, by omega, by omega, fun t u3 ht hu3 => ?_⟩
      walk_at "vs"
      refine ⟨by decide, u3, _, rfl, hu3, by decide, by decide, fun x u4 hx hu4 => ?_⟩
      obtain ⟨sg, rfl, hsg, hsg1⟩ : ∃ sg : Int, x = .int sg ∧ (-(2 ^ 64) < sg ∧ sg < 2 ^ 64) ∧ sg.natAbs = 1 := by
        simp only [List.mem_cons, List.not_mem_nil, or_false] at hx
        rcases hx with rfl | rfl <;> exact ⟨_, rfl, by decide, by decide⟩
      have ht2 : t < n := by omega
      walk_at "vs"
      simp only [Int.toNat_natCast]
      refine ⟨by unfold smallI; omega, ?_⟩
      unfold rgD
      have body : ∀ (f : List Int), f.length = n → ∀ s : Nat, s < n → ∀ (Q : D → Bool → Prop), Q (.int (f.getD ((s + (f.length - t)) % f.length) 0)) false → optI (atI (f.map D.int) ((0 : Int) + (s : Int) * 1 - (t : Int))) Q := by
        intro f hf s hs2 Q hQ
        have e0 : (0 : Int) + (s : Int) * 1 - (t : Int) = (s : Int) - t := by omega
        rw [e0]
        have hlt : (s + (n - t)) % n < n := Nat.mod_lt _ (by omega)
        rw [hf] at hQ
        refine optI_wrap (d := .int (f.getD ((s + (n - t)) % n) 0)) (by simp [hf]; omega) (by simp [hf]; omega) ?_ hQ
        rw [List.length_map, hf, turn_at hf ht2 hs2, List.getElem?_map, List.getElem?_eq_getElem (by rw [hf]; exact hlt), List.getD_eq_getElem?_getD, List.getElem?_eq_getElem (by rw [hf]; exact hlt)]
        rfl
      refine lc_mapT (fun (s : Nat) => .int (sg * r.getD ((s + (r.length - t)) % r.length) 0)) (by simp [LN_eq]; omega) (fun s acc kk hs2 hacc hkk => ?_) ?_
      · walk_at "vs"
        refine body r hr s (by simpa using hs2) _ ?_
        walk_at "vs"
        exact ⟨cm_l hsg, hacc, hkk⟩
      have e1 : (List.range n).map (fun (s : Nat) => D.int (sg * r.getD ((s + (r.length - t)) % r.length) 0)) = (turnL sg t r).map D.int := by
        unfold turnL
        rw [hr, List.map_map]
        rfl
      rw [e1]
      have hl1 := turnL_len sg t r
      have hs1 := turnL_sum sg t r (by omega) hs
      have hb1 := turnL_bd (by decide) hsg1 t hbd
      generalize turnL sg t r = f at *
      walk_at "vs"
      simp only [Int.toNat_natCast]
      refine ⟨by unfold smallI; omega, ?_⟩
      refine lc_mapT (fun (s : Nat) => .int (sg * f.getD ((s + (f.length - t)) % f.length) 0)) (by simp [LN_eq]; omega) (fun s acc kk hs2 hacc hkk => ?_) ?_
      · walk_at "vs"
        refine body f (by omega) s (by simpa using hs2) _ ?_
        walk_at "vs"
        exact ⟨cm_l hsg, hacc, hkk⟩
      have e2 : (List.range n).map (fun (s : Nat) => D.int (sg * f.getD ((s + (f.length - t)) % f.length) 0)) = (turnL sg t f).map D.int := by
        unfold turnL
        rw [hl1, hr, List.map_map]
        rfl
      rw [e2]
      have hl2 := turnL_len sg t f
      have hs3 := turnL_sum sg t f (by omega) hs1
      have hb3 := turnL_bd (by decide) hsg1 t hb1
      walk_at "vs"
      exact ⟨by decide, q _ _ _ u4 ⟨hm, hr, by omega, by omega, hs, hs1, hs3, bd_up hbd, bd_up hb1, bd_up hb3⟩ hu4⟩
    · simp only [h5, decide_false, Bool.false_eq_true, if_false]
      by_cases h9 : (way : Int) < 9
      · simp only [h9, decide_true, if_true]
        refine ⟨u1, n, rfl, hu1, hm, fun P u2 hP hP20 hu2 => ?_⟩
        walk_at "vs"
        by_cases h7 : (way : Int) < 7
        · simp only [h7, decide_true, if_true]
          refine ⟨u2, n, P, rfl, hu2, hP, fun a b c u3 hW hu3 => ?_⟩
          walk_at "vs"
          exact q _ _ _ _ hW hu3
        · simp only [h7, decide_false, Bool.false_eq_true, if_false]
          refine ⟨u2, n, P, rfl, hu2, hP, hP20, fun P2 u3 hP2 hu3 => ?_⟩
          walk_at "vs"
          refine ⟨u3, n, P2, rfl, hu3, hP2, fun a b c u4 hW hu4 => ?_⟩
          walk_at "vs"
          exact q _ _ _ _ hW hu4
      · simp only [h9, decide_false, Bool.false_eq_true, if_false]
        refine ite_three (by decide) (fun e1 e2 => ?_) ?_
        · have hn6 : n = 6 ∨ n = 12 := belt_n n hm (by simp at e2; omega)
          refine ⟨u1, n, rfl, hu1, hn6, fun P u2 hP hu2 => ?_⟩
          walk_at "vs"
          refine ⟨u2, n, P, rfl, hu2, hP, fun a b c u3 hW hu3 => ?_⟩
          walk_at "vs"
          exact q _ _ _ _ hW hu3
        · refine ⟨u1, n, 1, 2, rfl, hu1, by omega, by omega, by omega, by omega, fun r u2 hr hs hbd hu2 => ?_⟩
          walk_at "vs"
          simp only [Int.toNat_natCast, rep_flat, rep_ints]
          refine ⟨by decide, by omega, by rw [LN_eq]; omega, ?_⟩
          have z : (List.replicate n (0 : Int)).sum = 0 := by simp
          have z2 : bdL 100000000000000000000 (List.replicate n (0 : Int)) := fun x hx => by rw [(List.mem_replicate.mp hx).2]; decide
          have W1 : Wd n r r r := ⟨hm, hr, hr, hr, hs, hs, hs, bd_up hbd, bd_up hbd, bd_up hbd⟩
          have W2 : Wd n (List.replicate n 0) r (List.replicate n 0) := ⟨hm, by simp, hr, by simp, z, hs, z, z2, bd_up hbd, z2⟩
          by_cases h11 : (way : Int) = 11
          · simp only [h11, decide_true, if_true]
            exact ⟨by decide, q _ _ _ u2 W1 hu2⟩
          · simp only [h11, decide_false, Bool.false_eq_true, if_false]
            exact ⟨by decide, q _ _ _ u2 W2 hu2⟩
end K76

-- S9
namespace K76
open PySem PySem.Spec L2 VL PyProof.Rows
def tb (n : Nat) : Bool := decide (n % 2 = 0) || decide (n % 3 = 0)
theorem rep_table : ∀ n ∈ slotsL, ∀ m ∈ List.range 21, 1 ≤ m → n % m = 0 → m ≤ n → (m = n → tb n = true) → ∃ s ∈ List.range 6, (if m = n then 1 else 0) ≤ s ∧ s * m % 6 = 0 := by decide +kernel
theorem sums_bd : ∀ (F : List (Int × Int)), (∀ p ∈ F, p.1.natAbs ≤ 2 ∧ p.2.natAbs ≤ 2) → (F.map fun (p : Int × Int) => p.1).sum.natAbs ≤ 2 * F.length ∧ (F.map fun (p : Int × Int) => p.2).sum.natAbs ≤ 2 * F.length
  | [], _ => by simp
  | p :: F, h => by
    have ih := sums_bd F fun r hr => h r (by simp [hr])
    have hp := h p (by simp)
    simp only [List.map_cons, List.sum_cons, List.length_cons]
    omega
theorem sem_law_repeated : Sem 2 12 [0] b_law_repeated fs_law_repeated := by
  rintro ds Qv hl ⟨u, n, rfl, hu, hm, q⟩
  have hn := slots_pos hm
  unfold b_law_repeated
  refine seq_of (fun Γ => Γ = [.io u, .sh (.int n), .sh (.bl (tb n)), .un, .un, .un, .un, .un, .un, .un, .un, .un]) (fun k hk => ?_) ?_
  · have e2 : decide ((n : Int) % 2 = 0) = decide (n % 2 = 0) := by
      rw [decide_eq_decide]; omega
    have e3 : decide ((n : Int) % 3 = 0) = decide (n % 3 = 0) := by
      rw [decide_eq_decide]; omega
    walk_at "vs"
    rw [e2]
    refine ⟨by decide, ?_⟩
    by_cases h2 : n % 2 = 0
    · simp only [h2, decide_true, if_true]
      exact hk _ (by simp [tb, h2])
    · simp only [h2, decide_false, Bool.false_eq_true, if_false]
      refine ⟨by decide, hk _ (by simp [tb, h2, e3])⟩
  rintro Γ rfl
  refine seq_of (fun Γ => ∃ (u : List D) (m : Nat), U u ∧ 1 ≤ m ∧ m ≤ n ∧ n % m = 0 ∧ (m = n → tb n = true) ∧ Γ = [.io u, .sh (.int n), .sh (.bl (tb n)), .sh (.int m), .un, .un, .un, .un, .un, .un, .un, .un]) (fun k hk => ?_) ?_
  · walk_at "vs"
    have ht : (if tb n = true then (1 : Int) else 0) = ((if tb n = true then 1 else 0 : Nat) : Int) := by
      cases tb n <;> rfl
    rw [ht]
    generalize htt : (if tb n = true then 1 else 0 : Nat) = t
    have ht1 : t ≤ 1 := by subst htt; cases tb n <;> decide
    refine ⟨by unfold smallI; omega, by unfold smallI; omega, ?_⟩
    have en : ((n : Int) + (t : Int) - 1).toNat = n + t - 1 := by omega
    rw [en]
    unfold rgD
    refine lc_fmT (fun (k : Nat) => if (n : Int) % (1 + (k : Int) * 1) = 0 then some (.int (1 + (k : Int) * 1)) else none) (by simp [LN_eq]; omega) (fun k acc kk _ hacc hkk => ?_) ?_
    · walk_at "vs"
      refine ⟨by omega, ?_⟩
      by_cases h : (n : Int) % (1 + (k : Int) * 1) = 0
      · simp only [h, if_true, Option.toList_some] at hkk
        simp only [h, decide_true, if_true]
        exact ⟨hacc, hkk⟩
      · simp only [h, if_false, Option.toList_none, List.append_nil] at hkk
        simp only [h, decide_false, Bool.false_eq_true, if_false]
        exact hkk
    refine ⟨u, _, rfl, hu, ?_, ?_, fun x u' hx hu' => ?_⟩
    · refine List.length_pos_of_mem (a := D.int 1) (List.mem_filterMap.mpr ⟨0, List.mem_range.mpr (by omega), ?_⟩)
      simp
    · refine Nat.lt_of_le_of_lt (List.length_filterMap_le _ _) ?_
      simp
      omega
    obtain ⟨j, hj, hx2⟩ := List.mem_filterMap.mp hx
    have hj2 := List.mem_range.mp hj
    by_cases h : (n : Int) % (1 + (j : Int) * 1) = 0
    · rw [if_pos h] at hx2
      cases hx2
      walk_at "vs"
      have e9 : (1 : Int) + (j : Int) * 1 = ((j + 1 : Nat) : Int) := by omega
      rw [e9]
      refine hk _ ⟨u', j + 1, hu', by omega, by omega, ?_, fun e => ?_, rfl⟩
      · rw [e9] at h
        exact_mod_cast h
      · cases hb : tb n
        · rw [hb] at htt
          simp at htt
          omega
        · rfl
    · rw [if_neg h] at hx2
      cases hx2
  rintro Γ ⟨u, m, hu, hm1, hm2, hmod, hmt, rfl⟩
  refine seq_of (fun Γ => ∃ (u : List D) (s : Nat), U u ∧ s < 6 ∧ s * m % 6 = 0 ∧ (m = n → 1 ≤ s) ∧ Γ = [.io u, .sh (.int n), .sh (.bl (tb n)), .sh (.int m), .sh (.int s), .un, .un, .un, .un, .un, .un, .un]) (fun k hk => ?_) ?_
  · walk_at "vs"
    have ht : (if decide ((m : Int) = (n : Int)) = true then (1 : Int) else 0) = ((if m = n then 1 else 0 : Nat) : Int) := by
      by_cases e : m = n
      · subst e; simp
      · have : ¬ (m : Int) = (n : Int) := by omega
        simp [e, this]
    rw [ht]
    obtain ⟨s0, hs0, hs1, hs2⟩ := rep_table n hm m (List.mem_range.mpr (by omega)) hm1 hmod hm2 hmt
    have hs00 := List.mem_range.mp hs0
    generalize htt : (if m = n then 1 else 0 : Nat) = t at *
    have ht1 : t ≤ 1 := by subst htt; split <;> decide
    refine ⟨by unfold smallI; omega, by unfold smallI; omega, ?_⟩
    have en : ((6 : Int) - (t : Int)).toNat = 6 - t := by omega
    rw [en]
    unfold rgD
    refine lc_fmT (fun (k : Nat) => if ((t : Int) + (k : Int) * 1) * (m : Int) % 6 = 0 then some (.int ((t : Int) + (k : Int) * 1)) else none) (by simp [LN_eq]; omega) (fun k acc kk _ hacc hkk => ?_) ?_
    · walk_at "vs"
      refine ⟨cm_r (by omega), by decide, ?_⟩
      by_cases h : ((t : Int) + (k : Int) * 1) * (m : Int) % 6 = 0
      · simp only [h, if_true, Option.toList_some] at hkk
        simp only [h, decide_true, if_true]
        exact ⟨hacc, hkk⟩
      · simp only [h, if_false, Option.toList_none, List.append_nil] at hkk
        simp only [h, decide_false, Bool.false_eq_true, if_false]
        exact hkk
    refine ⟨u, _, rfl, hu, ?_, ?_, fun x u' hx hu' => ?_⟩
    · refine List.length_pos_of_mem (a := D.int s0) (List.mem_filterMap.mpr ⟨s0 - t, List.mem_range.mpr (by omega), ?_⟩)
      have e8 : (t : Int) + ((s0 - t : Nat) : Int) * 1 = (s0 : Int) := by omega
      rw [e8, if_pos]
      exact_mod_cast hs2
    · refine Nat.lt_of_le_of_lt (List.length_filterMap_le _ _) ?_
      simp
      omega
    obtain ⟨j, hj, hx2⟩ := List.mem_filterMap.mp hx
    have hj2 := List.mem_range.mp hj
    have e9 : (t : Int) + (j : Int) * 1 = ((t + j : Nat) : Int) := by omega
    rw [e9] at hx2
    by_cases h : ((t + j : Nat) : Int) * (m : Int) % 6 = 0
    · rw [if_pos h] at hx2
      cases hx2
      walk_at "vs"
      refine hk _ ⟨u', t + j, hu', by omega, by exact_mod_cast h, fun e => ?_, rfl⟩
      subst htt
      simp [e]
    · rw [if_neg h] at hx2
      cases hx2
  rintro Γ ⟨u, s, hu, hs6, hsm, hmn, rfl⟩
  have hF : n / m * m = n := Nat.div_mul_cancel (Nat.dvd_of_mod_eq_zero hmod)
  have hL1 : 1 ≤ n / m := Nat.div_pos hm2 (by omega)
  have hL2 : n / m ≤ n := Nat.div_le_self _ _
  refine seq_of (fun Γ => Γ = [.io u, .sh (.int n), .sh (.bl (tb n)), .sh (.int m), .sh (.int s), .ac [], .un, .un, .un, .un, .un, .un]) (fun k hk => ?_) ?_
  · walk_at "vs"
    exact ⟨by decide, hk _ rfl⟩
  rintro Γ rfl
  refine seq_of (fun Γ => ∃ (u : List D) (F : List (Int × Int)) (o6 o8 : Option D), U u ∧ F.length = n / m ∧ (∀ p ∈ F, p.1.natAbs ≤ 2 ∧ p.2.natAbs ≤ 2) ∧ Γ = [.io u, .sh (.int n), .sh (.bl (tb n)), .sh (.int m), .sh (.int s), .ac (F.map pD), oS o6, .un, oS o8, .un, .un, .un]) (fun k hk => ?_) ?_
  · walk_at "vs"
    have e0 : (n : Int) / (m : Int) = ((n / m : Nat) : Int) := by simp
    rw [e0]
    generalize n / m = L at *
    refine ⟨⟨by omega, log_9000 (by omega) (by omega)⟩, by unfold smallI; omega, ?_⟩
    simp only [Int.toNat_natCast]
    unfold rgD
    refine loop_invT (fun i Γ => ∃ (u : List D) (F : List (Int × Int)) (o6 o8 : Option D), U u ∧ F.length = i ∧ (∀ p ∈ F, p.1.natAbs ≤ 2 ∧ p.2.natAbs ≤ 2) ∧ Γ = [.io u, .sh (.int n), .sh (.bl (tb n)), .sh (.int m), .sh (.int s), .ac (F.map pD), oS o6, .un, oS o8, .un, .un, .un]) ⟨u, [], none, none, hu, rfl, by simp, rfl⟩ ?_ ?_
    · rintro i a Γ kk e ⟨u, F, o6, o8, hu, hF, hFb, rfl⟩ hkk
      obtain ⟨rfl, hi⟩ := range_get e
      walk_at "vs"
      refine ⟨u, _, rfl, hu, by decide, by decide, fun r1 u1 hr1 hu1 => ?_⟩
      walk_at "vs"
      refine ⟨u1, _, rfl, hu1, by decide, by decide, fun r2 u2 hr2 hu2 => ?_⟩
      walk_at "vs"
      refine ⟨by decide, by simp [LN_eq]; omega, hkk _ ⟨u2, F ++ [((r1 : Int) - 2, (r2 : Int) - 2)], some (.int (0 + (a : Int) * 1)), some (.int ((r1 : Int) - 2)), hu2, by simp [hF], fun p hp => ?_, ?_⟩⟩
      · rcases List.mem_append.mp hp with h | h
        · exact hFb p h
        · rw [List.mem_singleton] at h
          subst h
          dsimp only
          omega
      rw [List.map_append]
      rfl
    · rintro Γ ⟨u, F, o6, o8, hu, hF, hFb, rfl⟩
      rw [List.length_range] at hF
      exact hk _ ⟨u, F, o6, o8, hu, hF, hFb, rfl⟩
  rintro Γ ⟨u, F, o6, o8, hu, hFl, hFb, rfl⟩
  generalize hLL : n / m = L at *
  refine seq_of (fun Γ => ∃ (F : List (Int × Int)) (o8 o9 : Option D), F.length = L ∧ (s = 0 → psum F = (0, 0)) ∧ (∀ p ∈ F, p.1.natAbs ≤ 42 ∧ p.2.natAbs ≤ 42) ∧ Γ = [.io u, .sh (.int n), .sh (.bl (tb n)), .sh (.int m), .sh (.int s), .ac (F.map pD), oS o6, .un, oS o8, oS o9, .un, .un]) (fun k hk => ?_) ?_
  · walk_at "vs"
    by_cases h0 : (s : Int) = 0
    · simp only [h0, decide_true, if_true, wBor, gAt, gSet]
      have hfl : flatG [.io u, .sh (.int n), .sh (.bl (tb n)), .sh (.int m), .sh (.int s), .sh (lp F), oS o6, .un, oS o8, .un, .un, .un] = true := by
        obtain ⟨a, b, c, rfl⟩ := hu
        cases o6 <;> cases o8 <;> rfl
      refine ⟨hfl, ?_⟩
      walk_at "vs"
      refine lc_mapT (fun p => .int p.1) (by rw [LN_eq]; omega) (fun p acc kk _ hacc hkk => ?_) ?_
      · walk_at "vs"
        refine optI_at (by decide) rfl ?_
        first
          | exact ⟨hacc, hkk⟩
          | exact ⟨hacc, rfl, hkk⟩
      have m1 : F.map (fun p => D.int p.1) = (F.map (·.1)).map D.int := by rw [List.map_map]; rfl
      have m2 : F.map (fun p => D.int p.2) = (F.map (·.2)).map D.int := by rw [List.map_map]; rfl
      have fl : ∀ xs : List Int, flatR (.lst (xs.map D.int)) true = true := fun xs => by simp [flatR, flat]
      rw [m1]
      simp only [isInts_map]
      rw [h0] at hfl
      refine ⟨rfl, fl _, hfl, ?_⟩
      refine lc_mapT (fun p => .int p.2) (by rw [LN_eq]; omega) (fun p acc kk _ hacc hkk => ?_) ?_
      · walk_at "vs"
        refine optI_at (by decide) rfl ?_
        first
          | exact ⟨hacc, hkk⟩
          | exact ⟨hacc, rfl, hkk⟩
      rw [m2]
      simp only [isInts_map]
      refine ⟨rfl, fl _, ?_⟩
      obtain ⟨p, F2, rfl⟩ : ∃ p F2, F = p :: F2 := by
        cases F with
        | nil => simp at hFl; omega
        | cons p F2 => exact ⟨p, F2, rfl⟩
      refine optI_at (by decide) rfl ?_
      refine optI_at (by decide) rfl ?_
      refine optI_at (by decide) rfl ?_
      refine optI_at (by decide) rfl ?_
      refine ⟨by decide, onN_pos (by decide) (by simp) ?_⟩
      have hz : s = 0 := by omega
      subst hz
      refine hk _ ⟨(p.1 - ((p :: F2).map (·.1)).sum, p.2 - ((p :: F2).map (·.2)).sum) :: F2, some (.int ((p :: F2).map (·.1)).sum), some (.int ((p :: F2).map (·.2)).sum), by simpa using hFl, fun _ => ?_, fun r hr => ?_, rfl⟩
      · rw [psum_cons]
        simp only [psum, List.map_cons, List.sum_cons, Prod.mk.injEq]
        constructor <;> omega
      · have hs := sums_bd (p :: F2) hFb
        have hp := hFb p (by simp)
        have hl20 : (p :: F2).length ≤ 20 := by omega
        rcases List.mem_cons.mp hr with rfl | h
        · dsimp only
          omega
        · have := hFb r (by simp [h])
          omega
    · simp only [h0, decide_false, Bool.false_eq_true, if_false]
      exact hk _ ⟨F, o8, none, hFl, fun e => absurd e (by omega), fun p hp => by have := hFb p hp; omega, rfl⟩
  rintro Γ ⟨F, o8, o9, hFl, hF0, hF42, rfl⟩
  walk_at "vs"
  refine ⟨by decide, by unfold smallI; omega, ?_⟩
  simp only [Int.toNat_natCast]
  unfold rgD
  refine loop_invT (fun i Γ => ∃ (o6 : Option D) (s5 : VL.Slot), (s5 = .ac (F.map pD) ∨ s5 = .sh (lp F)) ∧ Γ = [.io u, .sh (.int n), .sh (.bl (tb n)), .sh (.int m), .sh (.int s), s5, oS o6, .ac (((List.range i).flatMap fun t => F.map (six (s * t % 6))).map pD), oS o8, oS o9, .un, .un]) ⟨o6, _, .inl rfl, rfl⟩ ?_ ?_
  · rintro i a Γ kk e ⟨o6, s5, h5, rfl⟩ hkk
    obtain ⟨rfl, hi⟩ := range_get e
    have e0 : (0 : Int) + (a : Int) * 1 = a := by omega
    rw [e0]
    have hlen : ((List.range a).flatMap fun t => F.map (six (s * t % 6))).length = a * L := by
      have : ∀ xs : List Nat, (xs.flatMap fun t => F.map (six (s * t % 6))).length = xs.length * L := by
        intro xs
        induction xs with
        | nil => simp
        | cons x xs ih => simp only [List.flatMap_cons, List.length_append, ih, List.length_map, hFl, List.length_cons, Nat.succ_mul]; omega
      rw [this, List.length_range]
    have hmul : a * L ≤ m * L := Nat.mul_le_mul_right _ (by omega)
    have hLm : m * L = n := by rw [Nat.mul_comm]; exact hF
    rcases h5 with rfl | rfl
    all_goals
      walk_at "vs"
      refine lc_mapT (fun p => pD (six (s * a % 6) p)) (by rw [LN_eq]; omega) (fun p acc k2 _ hacc hk2 => ?_) ?_
      · walk_at "vs"
        refine ⟨cm_l (by omega), p, _, rfl, ?_⟩
        have e6 : ((s : Int) * (a : Int) % 6).toNat = s * a % 6 := by
          have : (((s * a % 6 : Nat)) : Int) = (s : Int) * (a : Int) % 6 := by simp
          rw [← this]
          exact Int.toNat_natCast _
        rw [e6]
        walk_at "vs"
        exact ⟨hacc, hk2⟩
      walk_at "vs"
      simp only [List.length_map, hlen, hFl]
      refine ⟨by rw [LN_eq]; omega, hkk _ ⟨some (.int a), _, .inr rfl, ?_⟩⟩
      rw [List.range_succ, List.flatMap_append, List.map_append]
      simp only [List.flatMap_cons, List.flatMap_nil, List.append_nil, List.map_map]
      rfl
  · rintro Γ ⟨o6, s5, h5, rfl⟩
    rw [List.length_range]
    have hz := rep_zero (s := s) (m := m) (by omega) hs6 hsm F hF0
    have hlen : ((List.range m).flatMap fun t => F.map (six (s * t % 6))).length = n := by
      have : ∀ xs : List Nat, (xs.flatMap fun t => F.map (six (s * t % 6))).length = xs.length * L := by
        intro xs
        induction xs with
        | nil => simp
        | cons x xs ih => simp only [List.flatMap_cons, List.length_append, ih, List.length_map, hFl, List.length_cons, Nat.succ_mul]; omega
      rw [this, List.length_range, Nat.mul_comm]
      exact hF
    walk_at "vs"
    have hb : bdP 1000 ((List.range m).flatMap fun t => F.map (six (s * t % 6))) := by
      intro p hp
      obtain ⟨t, _, hp⟩ := List.mem_flatMap.mp hp
      obtain ⟨r, hr, rfl⟩ := List.mem_map.mp hp
      have h1 := hF42 r hr
      have := six_bd (B := 84) (s * t % 6) r (by omega) (by omega) (by omega)
      omega
    exact q _ u (Pt.of hm hlen hz fun p hp => by have := hb p hp; omega) hb hu
end K76

-- S10
namespace K76
open PySem PySem.Spec L2 VL PyProof.Rows
theorem lawRow_len (P : List (Int × Int)) (h : Nat) : (lawRow P h).length = ordOf P.length := by
  unfold lawRow
  rw [foldl_len _ (fun f a => by simp [addAt_len])]
  simp
theorem zipIdx_at {P : List (Int × Int)} {j : Nat} (hj : j < P.length) : P.zipIdx[j]? = some (P.getD j (0, 0), j) := by
  rw [List.getElem?_zipIdx, getD_of hj]
  simp
theorem sem_law_wave_row : Sem 2 8 [] b_law_wave_row fs_law_wave_row := by
  rintro ds Qv hl ⟨P, hi, rfl, hm, q⟩
  have hn := slots_pos hm
  have hk0 : (((hi % (P.length : Int)).toNat : Nat) : Int) = hi % (P.length : Int) := Int.toNat_of_nonneg (Int.emod_nonneg _ (by omega))
  generalize (hi % (P.length : Int)).toNat = h at *
  have ho := ordOf_pos hm
  unfold b_law_wave_row
  refine seq_of (fun Γ => Γ = [.sh (lp P), .sh (.int hi), .sh (.int P.length), .un, .un, .un, .un, .un]) (fun k hk => ?_) ?_
  · walk_at "vs"
    simp only [List.length_map]
    exact hk _ rfl
  rintro Γ rfl
  refine seq_of (fun Γ => Γ = [.sh (lp P), .sh (.int hi), .sh (.int P.length), .sh (.int (ordOf P.length : Nat)), .un, .un, .un, .un]) (fun k hk => ?_) ?_
  · walk_at "vs"
    by_cases h0 : P.length % 3 = 0
    · have h1 : (P.length : Int) % 3 = 0 := by omega
      simp only [h1, decide_true, if_true]
      exact ⟨by decide, hk _ (by simp [ordOf, h0])⟩
    · have h1 : ¬ (P.length : Int) % 3 = 0 := by omega
      simp only [h1, decide_false, Bool.false_eq_true, if_false]
      exact ⟨by decide, cm_l (by decide), hk _ (by simp [ordOf, h0])⟩
  rintro Γ rfl
  walk_at "vs"
  simp only [Int.toNat_natCast, rep_flat, rep_ints, LN_eq]
  refine ⟨by omega, by omega, by omega, by unfold smallI; omega, ?_⟩
  unfold rgD
  refine loop_invT (fun i Γ => ∃ o5 o6 o7, Γ = [.sh (lp P), .sh (.int hi), .sh (.int P.length), .sh (.int (ordOf P.length : Nat)),
      .ac (((P.zipIdx.take i).foldl (fun f q => addAt (addAt f (lawAng P.length h q.2) q.1.1) ((lawAng P.length h q.2 + ordOf P.length / 3) % ordOf P.length) q.1.2) (List.replicate (ordOf P.length) 0)).map D.int), oS o5, oS o6, oS o7]) ⟨none, none, none, rfl⟩ ?_ ?_
  · rintro i j Γ k e ⟨o5, o6, o7, rfl⟩ hk
    obtain ⟨rfl, hj⟩ := range_get e
    have e0 : (0 : Int) + (j : Int) * 1 = j := by omega
    rw [e0]
    have hlen : ((P.zipIdx.take j).foldl (fun f q => addAt (addAt f (lawAng P.length h q.2) q.1.1) ((lawAng P.length h q.2 + ordOf P.length / 3) % ordOf P.length) q.1.2) (List.replicate (ordOf P.length) 0)).length = ordOf P.length := by
      rw [foldl_len _ (fun f a => by simp [addAt_len])]
      simp
    rw [foldl_take _ _ _ (zipIdx_at hj)] at hk
    generalize (P.zipIdx.take j).foldl (fun f q => addAt (addAt f (lawAng P.length h q.2) q.1.1) ((lawAng P.length h q.2 + ordOf P.length / 3) % ordOf P.length) q.1.2) (List.replicate (ordOf P.length) 0) = f at *
    have hpj : (P.map pD)[(Int.toNat (j : Int))]? = some (pD (P.getD j (0, 0))) := by
      rw [Int.toNat_natCast, List.getElem?_map, getD_of hj]
      rfl
    have hang : (hi * (j : Int) % (P.length : Int)) * (((ordOf P.length : Nat) : Int) / (P.length : Int)) = (lawAng P.length h j : Nat) := by
      unfold lawAng
      have : hi * (j : Int) % (P.length : Int) = ((h * j % P.length : Nat) : Int) := by
        rw [Int.natCast_emod, Int.natCast_mul, hk0, Int.mul_emod hi, Int.mul_emod (hi % _) (j : Int), Int.emod_emod_of_dvd hi (Int.dvd_refl _)]
      rw [this]
      simp
    have hle : lawAng P.length h j < ordOf P.length := by
      unfold lawAng
      have h1 : h * j % P.length < P.length := Nat.mod_lt _ (by omega)
      have h2 : P.length * (ordOf P.length / P.length) ≤ ordOf P.length := Nat.mul_div_le _ _
      have h3 : (h * j % P.length + 1) * (ordOf P.length / P.length) ≤ P.length * (ordOf P.length / P.length) := Nat.mul_le_mul_right _ h1
      rw [Nat.add_mul, Nat.one_mul] at h3
      omega
    have h3 : ((lawAng P.length h j : Nat) + ((ordOf P.length : Nat) : Int) / 3) % ((ordOf P.length : Nat) : Int) = (((lawAng P.length h j + ordOf P.length / 3) % ordOf P.length : Nat) : Int) := by simp
    have hlt3 : (lawAng P.length h j + ordOf P.length / 3) % ordOf P.length < ordOf P.length := Nat.mod_lt _ (by omega)
    have hlog : (P.length : Int).natAbs.log2 < 9000 := log_9000 (by omega) (by omega)
    walk_at "vs"
    rw [hang]
    rw [h3]
    have hcm : -(2 ^ 64) < (hi * (j : Int) % (P.length : Int)) ∧ (hi * (j : Int) % (P.length : Int)) < 2 ^ 64 := by
      have := Int.emod_nonneg (hi * (j : Int)) (show (P.length : Int) ≠ 0 by omega)
      have := Int.emod_lt_of_pos (hi * (j : Int)) (show (0 : Int) < (P.length : Int) by omega)
      omega
    generalize lawAng P.length h j = an at *
    have hl5 := addAt_len f an (P.getD j (0, 0)).1
    refine ⟨cm_r (by omega), by omega, ⟨by omega, hlog⟩, cm_l hcm, ⟨by decide, log_9000 (by decide) (by decide)⟩, by omega, optI_int (by omega) (by omega) ?_⟩
    refine optI_at (by omega) hpj ?_
    refine optI_at (by decide) rfl ?_
    refine onN_pos (by omega) (by rw [List.length_map]; omega) ?_
    simp only [Int.toNat_natCast]
    rw [set_add]
    refine optI_int (by omega) (by omega) ?_
    refine optI_at (by omega) hpj ?_
    refine optI_at (by decide) rfl ?_
    refine onN_pos (by omega) (by rw [List.length_map]; omega) ?_
    simp only [Int.toNat_natCast]
    rw [set_add]
    exact hk _ ⟨some (.int j), some (.int _), some (.int _), rfl⟩
  · rintro Γ ⟨o5, o6, o7, rfl⟩
    walk_at "vs"
    have e : (P.zipIdx.take (List.range P.length).length) = P.zipIdx := by
      rw [List.length_range]
      exact List.take_of_length_le (by simp)
    rw [e]
    exact q
end K76

-- S11
namespace K76
open PySem PySem.Spec L2 VL PyProof.Rows
def divs (n : Nat) : List Nat := ((List.range (n - 1)).filter fun (k : Nat) => decide (n % (k + 2) = 0)).map (· + 2)
def isP (e : Nat) : Bool := (List.range (e - 2)).all fun (k : Nat) => !decide (e % (k + 2) = 0)
theorem prime_facts : ∀ n ∈ ordersL, ((divs n).filter isP).map (fun (k : Nat) => (k : Int)) = ppT n ∧ ∀ p ∈ (divs n).filter isP, 2 ≤ p ∧ p ≤ n ∧ n % p = 0 := by decide +kernel
theorem fm_if {α : Type} (L : List α) (p : α → Bool) (f : α → D) : L.filterMap (fun a => if p a = true then some (f a) else none) = (L.filter p).map f := by
  induction L with
  | nil => rfl
  | cons k L ih => by_cases h0 : p k = true <;> simp [List.filterMap_cons, List.filter_cons, h0] <;> simpa using ih
theorem backs_len (t : Nat) (f : List Int) : (backs t f).length = f.length := by simp [backs]
theorem sem_law_is_nought : Sem 1 9 [] b_law_is_nought fs_law_is_nought := by
  rintro ds Qv hl ⟨f, rfl, hm, q⟩
  have ho := ord_pos hm
  obtain ⟨pf1, pf2⟩ := prime_facts _ hm
  unfold lawN at q
  generalize hnn : f.length = n at *
  unfold b_law_is_nought
  refine seq_of (fun Γ => Γ = [.sh (li f), .un, .un, .sh (.int n), .sh (li f), .un, .un, .un, .un]) (fun k hk => ?_) ?_
  · walk_at "vs"
    simp only [List.length_map, hnn]
    exact hk _ rfl
  rintro Γ rfl
  refine seq_of (fun Γ => Γ = [.sh (li f), .ac ((divs n).map fun (k : Nat) => D.int k), .un, .sh (.int n), .sh (li f), .un, .un, .un, .un]) (fun k hk => ?_) ?_
  · walk_at "vs"
    refine ⟨by unfold smallI; omega, by unfold smallI; omega, ?_⟩
    have en : ((n : Int) + 1 - 2).toNat = n - 1 := by omega
    rw [en]
    unfold rgD
    refine lc_fmT (fun (k : Nat) => if decide (n % (k + 2) = 0) = true then some (D.int ((k + 2 : Nat) : Int)) else none) (by simp [LN_eq]; omega) (fun k acc kk _ hacc hkk => ?_) ?_
    · have e0 : (2 : Int) + (k : Int) * 1 = ((k + 2 : Nat) : Int) := by omega
      rw [e0]
      have e1 : decide ((n : Int) % ((k + 2 : Nat) : Int) = 0) = decide (n % (k + 2) = 0) := by
        rw [decide_eq_decide]
        omega
      walk_at "vs"
      rw [e1]
      refine ⟨by omega, ?_⟩
      cases z : decide (n % (k + 2) = 0)
      · rw [z] at hkk
        simpa using hkk
      · rw [z] at hkk
        simp only [if_true]
        exact ⟨hacc, by simpa using hkk⟩
    · rw [fm_if]
      refine hk _ ?_
      unfold divs
      rw [List.map_map]
      rfl
  rintro Γ rfl
  refine seq_of (fun Γ => ∃ (g : List Int) (s1 s2 s4 : VL.Slot), g = (ppT n).foldl (fun g p => backs (n / p.toNat) g) f ∧ noIo s1 = true ∧ (s4 = .sh (li g) ∨ s4 = .ac (g.map D.int)) ∧ Γ = [.sh (li f), s1, s2, .sh (.int n), s4, .un, .un, .un, .un]) (fun k hk => ?_) ?_
  · walk_at "vs"
    refine lc_fmT (L := divs n) (fun (e : Nat) => if isP e = true then some (D.int (e : Nat)) else none) (by rw [LN_eq]; unfold divs; rw [List.length_map]; exact Nat.lt_of_le_of_lt (List.length_filter_le _ _) (by simp; omega)) (fun e acc kk he hacc hkk => ?_) ?_
    · have he2 : 2 ≤ e ∧ e ≤ n := by
        unfold divs at he
        obtain ⟨a, ha, rfl⟩ := List.mem_map.mp he
        have := List.mem_range.mp (List.mem_filter.mp ha).1
        omega
      walk_at "vs"
      refine ⟨by unfold smallI; omega, by unfold smallI; omega, ?_⟩
      have en : ((e : Int) - 2).toNat = e - 2 := by omega
      rw [en]
      unfold rgD
      refine lc_fmT (fun (k : Nat) => if decide (e % (k + 2) = 0) = true then some (D.int ((k + 2 : Nat) : Int)) else none) (by simp [LN_eq]; omega) (fun k acc2 k2 _ hacc2 hk2 => ?_) ?_
      · have e0 : (2 : Int) + (k : Int) * 1 = ((k + 2 : Nat) : Int) := by omega
        rw [e0]
        have e1 : decide ((e : Int) % ((k + 2 : Nat) : Int) = 0) = decide (e % (k + 2) = 0) := by
          rw [decide_eq_decide]
          omega
        walk_at "vs"
        rw [e1]
        refine ⟨by omega, ?_⟩
        cases z : decide (e % (k + 2) = 0)
        · rw [z] at hk2
          simpa using hk2
        · rw [z] at hk2
          simp only [if_true]
          exact ⟨hacc2, by simpa using hk2⟩
      · rw [fm_if]
        have e5 : ((List.range (e - 2)).filter fun (k : Nat) => decide (e % (k + 2) = 0)).map (fun (k : Nat) => D.int ((k + 2 : Nat) : Int)) = (((List.range (e - 2)).filter fun (k : Nat) => decide (e % (k + 2) = 0)).map fun (k : Nat) => ((k + 2 : Nat) : Int)).map D.int := by rw [List.map_map]; rfl
        rw [e5, eqP_linil, okP_li, okP_lnil]
        have e6 : (((List.range (e - 2)).filter fun (k : Nat) => decide (e % (k + 2) = 0)).map fun (k : Nat) => ((k + 2 : Nat) : Int)).isEmpty = isP e := by
          unfold isP
          generalize List.range (e - 2) = L
          induction L with
          | nil => rfl
          | cons k L ih => by_cases h0 : e % (k + 2) = 0 <;> simp [List.filter_cons, h0] <;> simpa using ih
        rw [e6]
        walk_at "vs"
        cases z : isP e
        · rw [z] at hkk
          simpa using hkk
        · rw [z] at hkk
          simpa using ⟨hacc, hkk⟩
    · rw [fm_if]
      show loopW _ _ _ _ [.sh (li f), .sh (ln (divs n)), .un, .sh (.int n), .sh (li f), .un, .un, .un, .un]
      refine loop_invT (fun i Γ => ∃ (o2 : Option D) (s4 : VL.Slot), (s4 = .sh (li ((((divs n).filter isP).take i).foldl (fun g p => backs (n / p) g) f)) ∨ s4 = .ac (((((divs n).filter isP).take i).foldl (fun g p => backs (n / p) g) f).map D.int)) ∧ Γ = [.sh (li f), .sh (ln (divs n)), oS o2, .sh (.int n), s4, .un, .un, .un, .un]) ⟨none, _, .inl rfl, rfl⟩ ?_ ?_
      · rintro i p Γ kk e ⟨o2, s4, h4, rfl⟩ hkk
        have hp := pf2 p (List.mem_of_getElem? e)
        have hgl : ((((divs n).filter isP).take i).foldl (fun g p => backs (n / p) g) f).length = n := by
          rw [foldl_len _ (fun f a => backs_len _ _)]
          exact hnn
        rw [foldl_take _ _ _ e] at hkk
        generalize (((divs n).filter isP).take i).foldl (fun g p => backs (n / p) g) f = g at *
        have ht1 : 1 ≤ n / p := Nat.div_pos hp.2.1 (by omega)
        have ht2 : n / p < n := Nat.div_lt_self (by omega) (by omega)
        have e7 : (n : Int) / (p : Int) = ((n / p : Nat) : Int) := by simp
        generalize n / p = t at *
        have body : ∀ (k : Nat) (Q : D → Bool → Prop), k < n → Q (.int (g.getD (if t ≤ k then k - t else k + g.length - t) 0)) false → optI (atI (g.map D.int) ((0 : Int) + (k : Int) * 1 - (t : Int))) Q := by
          intro k Q hk hQ
          refine optI_wrap (d := .int (g.getD (if t ≤ k then k - t else k + g.length - t) 0)) (by simp [hgl]; omega) (by simp [hgl]; omega) ?_ hQ
          have e8 : (((0 : Int) + (k : Int) * 1 - (t : Int)) % ((g.map D.int).length : Int)).toNat = (if t ≤ k then k - t else k + g.length - t) := by
            rw [List.length_map, hgl]
            by_cases h : t ≤ k
            · rw [if_pos h, Int.emod_eq_of_lt (by omega) (by omega)]
              omega
            · rw [if_neg h, ← Int.add_emod_right, Int.emod_eq_of_lt (by omega) (by omega)]
              omega
          have hlt : (if t ≤ k then k - t else k + g.length - t) < g.length := by split <;> omega
          rw [e8, List.getElem?_map, List.getElem?_eq_getElem hlt, List.getD_eq_getElem?_getD, List.getElem?_eq_getElem hlt]
          rfl
        rcases h4 with rfl | rfl
        all_goals
          walk_at "vs"
          simp only [Int.toNat_natCast]
          refine ⟨by unfold smallI; omega, ?_⟩
          unfold rgD
          refine lc_mapT (fun (k : Nat) => .int (g.getD k 0 - g.getD (if t ≤ k then k - t else k + g.length - t) 0)) (by simp [LN_eq]; omega) (fun k acc k2 hk hacc hk2 => ?_) ?_
          · have hk3 := List.mem_range.mp hk
            walk_at "vs"
            refine optI_int (by omega) (by omega) ?_
            rw [e7]
            have e9 : ((0 : Int) + (k : Int) * 1).toNat = k := by omega
            rw [e9]
            refine ⟨⟨by omega, log_9000 (by omega) (by omega)⟩, body k _ hk3 ?_⟩
            exact ⟨hacc, hk2⟩
          · refine hkk _ ⟨some (.int p), .ac ((backs t g).map D.int), .inr rfl, ?_⟩
            unfold backs
            rw [hgl, List.map_map]
            rfl
      · rintro Γ ⟨o2, s4, h4, rfl⟩
        rw [List.take_length] at h4
        have e : (ppT n).foldl (fun g p => backs (n / p.toNat) g) f = ((divs n).filter isP).foldl (fun g p => backs (n / p) g) f := by
          rw [← pf1, List.foldl_map]
          rfl
        refine hk _ ⟨_, _, oS o2, s4, rfl, rfl, ?_, rfl⟩
        rw [e]
        exact h4
  rintro Γ ⟨g, s1, s2, s4, hg, h1, h4, rfl⟩
  have hgl : g.length = n := by
    rw [hg, foldl_len _ (fun f a => backs_len _ _)]
    exact hnn
  rw [← hg] at q
  have fin : ∀ (r : List Int), (r.filterMap (fun x => if x = 0 then none else some (D.int x))) = (r.filter (fun x => decide (x ≠ 0))).map D.int ∧ (r.filter (fun x => decide (x ≠ 0))).isEmpty = r.all fun x => decide (x = 0) := by
    intro r
    induction r with
    | nil => exact ⟨rfl, rfl⟩
    | cons x r ih =>
      by_cases h0 : x = 0
      · simpa [List.filterMap_cons, List.filter_cons, h0] using ih
      · exact ⟨by simpa [List.filterMap_cons, List.filter_cons, h0] using ih.1, by simp [List.filter_cons, h0]⟩
  rcases h4 with rfl | rfl
  all_goals
    walk_at "vs"
    refine lc_fmT (L := g) (fun x => if x = 0 then none else some (.int x)) (by rw [LN_eq]; omega) (fun x acc k _ hacc hk => ?_) ?_
    · walk_at "vs"
      by_cases h0 : x = 0
      · simp only [h0, if_true, Option.toList_none, List.append_nil] at hk
        simp only [h0, decide_true, Bool.not_true, Bool.false_eq_true, if_false]
        exact hk
      · simp only [h0, if_false, Option.toList_some] at hk
        simp only [h0, decide_false, Bool.not_false, if_true]
        exact ⟨hacc, hk⟩
    · rw [(fin g).1, eqP_linil, okP_li, okP_lnil, (fin g).2]
      exact ⟨by decide, rfl, rfl, q⟩
theorem sem_law_waves : Sem 1 2 [] b_law_waves fs_law_waves := by
  rintro ds Qv hl ⟨P, rfl, hm, q⟩
  have hn := slots_pos hm
  unfold b_law_waves
  walk_at "vs"
  simp only [List.length_map, Int.toNat_natCast]
  refine ⟨by unfold smallI; omega, ?_⟩
  unfold rgD
  refine lc_fmT (fun (k : Nat) => if lawW P k = true then some (.int (k : Nat)) else none) (by simp [LN_eq]; omega) (fun k acc kk hk hacc hkk => ?_) ?_
  · have e : (0 : Int) + (k : Int) * 1 = k := by omega
    rw [e]
    walk_at "vs"
    have hk3 : ((k : Int) % (P.length : Int)).toNat = k := by rw [Int.emod_eq_of_lt (by omega) (by have := List.mem_range.mp hk; omega)]; rfl
    refine ⟨P, k, rfl, hm, ?_⟩
    rw [hk3]
    walk_at "vs"
    refine ⟨_, rfl, by rw [lawRow_len]; exact ord_mem hm, ?_⟩
    walk_at "vs"
    unfold lawW at hkk
    cases z : lawN (lawRow P k)
    · rw [z] at hkk
      exact ⟨hacc, by simpa using hkk⟩
    · rw [z] at hkk
      simpa using hkk
  · rw [fm_if]
    unfold lwvs at q
    simp only [li, List.map_map] at q
    exact q
theorem sem_law_is_ripple : Sem 4 6 [] b_law_is_ripple fs_law_is_ripple := by
  rintro ds Qv hl ⟨some, n, p, m, rfl, hn, hp, q⟩
  unfold b_law_is_ripple
  have hpc : -(2 ^ 64) < (p : Int) ∧ (p : Int) < 2 ^ 64 := by have := hp.2; omega
  walk_at "vs"
  refine ⟨cm_l (by decide), cm_l (by decide), cm_r hpc, by omega, some, rfl, ?_⟩
  unfold lrip at q
  by_cases h1 : (2 * (m : Int) + 1) * (p : Int) % (n : Int) ∈ some
  · simp only [h1, decide_true, Bool.true_or] at q
    simp only [h1, decide_true]
    exact q
  · simp only [h1, decide_false, Bool.false_or] at q
    simp only [h1, decide_false]
    show (if decide (0 < 2 * (m : Int) - 1) = true then _ else _)
    by_cases h2 : 0 < 2 * (m : Int) - 1
    · simp only [h2, decide_true, Bool.true_and] at q
      simp only [h2, decide_true, if_true]
      refine ⟨cm_r hpc, by omega, some, rfl, ?_⟩
      simpa using q
    · simp only [h2, decide_false, Bool.false_and] at q
      simp only [h2, decide_false, Bool.false_eq_true, if_false]
      exact q
end K76

-- S12
namespace K76
open PySem PySem.Spec L2 VL PyProof.Rows
theorem sem_law_right : Sem 1 5 [0] b_law_right fs_law_right := by
  rintro ds Qv hl ⟨u, rfl, hu, q⟩
  unfold b_law_right
  refine seq_of (fun Γ => ∃ (u : List D) (n : Nat), U u ∧ n ∈ slotsL ∧ Γ = [.io u, .sh (.int n), .un, .un, .un]) (fun k hk => ?_) ?_
  · walk_at "vs"
    refine ⟨by decide, u, _, rfl, hu, by decide, by decide, fun x u' hx hu' => ?_⟩
    obtain ⟨n, rfl, hn⟩ : ∃ n : Nat, x = .int n ∧ n ∈ slotsL := by
      simp only [List.mem_cons, List.not_mem_nil, or_false] at hx
      rcases hx with rfl | rfl | rfl | rfl | rfl | rfl | rfl | rfl | rfl | rfl | rfl <;> exact ⟨_, rfl, by decide⟩
    walk_at "vs"
    exact hk _ ⟨u', n, hu', hn, rfl⟩
  rintro Γ ⟨u, n, hu, hn, rfl⟩
  refine seq_of (fun Γ => ∃ (u : List D) (a b c : List Int), U u ∧ Wd n a b c ∧ Γ = [.io u, .sh (.int n), .sh (wD a b c), .un, .un]) (fun k hk => ?_) ?_
  · walk_at "vs"
    refine ⟨u, n, rfl, hu, hn, fun a b c u' hW hu' => ?_⟩
    walk_at "vs"
    exact hk _ ⟨u', a, b, c, hu', hW, rfl⟩
  rintro Γ ⟨u, a, b, c, hu, W, rfl⟩
  have hl := pts_len W
  walk_at "vs"
  refine ⟨n, a, b, c, rfl, W, ?_⟩
  walk_at "vs"
  refine ⟨_, rfl, by rw [hl]; exact hn, ?_⟩
  walk_at "vs"
  refine ⟨u, _, rfl, hu, by decide, by decide, fun r1 u1 hr1 hu1 => ?_⟩
  walk_at "vs"
  refine ⟨u1, _, rfl, hu1, by decide, by decide, fun r2 u2 hr2 hu2 => ?_⟩
  walk_at "vs"
  refine ⟨by decide, ?_⟩
  refine loop_inv (fun i Γ => ∃ (u : List D) (s3 : VL.Slot) (o4 : Option D), U u ∧ (s3 = .ac ((lwvs (ptsOf a b c)).map D.int) ∨ s3 = .sh (li (lwvs (ptsOf a b c)))) ∧ Γ = [.io u, .sh (.int n), .sh (wD a b c), s3, oS o4]) ⟨u2, _, none, hu2, .inl rfl, rfl⟩ ?_ ?_
  · rintro i d Γ k e ⟨u, s3, o4, hu, h3, rfl⟩ hk
    obtain ⟨p, rfl, hp⟩ : ∃ p : Nat, d = .int p ∧ Pr p := by
      match i, e with
      | 0, e => exact ⟨1 + r1, by rw [← Option.some.inj e]; simp, by constructor <;> omega⟩
      | 1, e => exact ⟨1 + r2, by rw [← Option.some.inj e]; simp, by constructor <;> omega⟩
      | i + 2, e => simp at e
    rcases h3 with rfl | rfl
    all_goals
      walk_at "vs"
      refine ⟨u, n, a, b, c, p, rfl, hu, W, hp, fun u' hu' => ?_⟩
      walk_at "vs"
      exact hk _ ⟨u', _, some (.int p), hu', .inr rfl, rfl⟩
  · rintro Γ ⟨u, s3, o4, hu, h3, rfl⟩
    walk_at "vs"
    exact q u hu
theorem sem_law0 : Sem 1 2 [] b_law0 fs_law0 := by
  rintro ds Qv hl ⟨ns, rfl, hn, q⟩
  unfold b_law0
  walk_at "vs"
  simp only [List.length_map]
  generalize hx : (if (if (3 : Int) < (ns.length : Int) then (3 : Int) else (ns.length : Int)) > 2 then (if (3 : Int) < (ns.length : Int) then (3 : Int) else (ns.length : Int)) else 2) = x
  have hb : 0 ≤ x ∧ x ≤ 3 := by subst hx; split <;> (try split) <;> omega
  refine ⟨by unfold smallI; omega, ?_⟩
  unfold rgD
  refine lc_mapT (fun _ => .bl true) (by simp [LN_eq]; omega) (fun t acc k ht hacc hk => ?_) ?_
  · have ht2 := List.mem_range.mp ht
    have e : (0 : Int) + (t : Int) * 1 = t := by omega
    rw [e]
    simp only [wCallT]
    walk_at "vs"
    refine ⟨ns, t, rfl, by omega, fun u hu => ?_⟩
    walk_at "vs"
    refine ⟨u, rfl, hu, fun u' hu' => ?_⟩
    first
      | exact ⟨rfl, rfl, hacc, rfl, hk⟩
      | exact ⟨rfl, rfl, hacc, hk⟩
      | exact ⟨hacc, rfl, hk⟩
      | exact ⟨hacc, hk⟩
      | exact ⟨rfl, hacc, hk⟩
  · have e : (List.range x.toNat).map (fun _ => D.bl true) = ((List.range x.toNat).map fun _ => true).map D.bl := by rw [List.map_map]; rfl
    rw [e]
    walk_at "vs"
    have e2 : ((List.range x.toNat).map fun _ => true).all id = true := by simp
    rw [e2]
    exact q
end K76

-- P6
/-! P6: the plain law of k76. -/
namespace K76
theorem remP_eq : remP = GR.remP := rfl
theorem backs_eq {t : Nat} {f : List Int} (ht : t < f.length) : backs t f = GR.lessT t f := by
  apply List.ext_getElem
  · rw [backs_len, GR.lessT_len]
  · intro i h1 h2
    have hi : i < f.length := by rw [backs_len] at h1; exact h1
    have h3 := GR.rotl_get ht hi
    have e1 : (GR.lessT t f)[i] = f[i] - (GR.rotl t f)[i]'(by rw [GR.rotl_len]; exact hi) := by simp [GR.lessT]
    rw [e1]
    have e2 : (GR.rotl t f)[i]'(by rw [GR.rotl_len]; exact hi) = (GR.rotl t f).getD i 0 := by
      rw [List.getD_eq_getElem?_getD, List.getElem?_eq_getElem]
      rfl
    rw [e2, h3]
    simp [backs, List.getD_eq_getElem?_getD, List.getElem?_eq_getElem hi]
def psOf (n : Nat) : List Nat := ((ppT n).map Int.toNat).reverse
theorem chk_all : ∀ n ∈ ordersL, GR.chkO n (polyT n) (psOf n) = true := by decide +kernel
theorem lawN_eq {f : List Int} (h : f.length ∈ ordersL) : lawN f = GR.zs (GR.lawF f.length (psOf f.length) f) := by
  have hn := ord_pos h
  haveI : NeZero f.length := ⟨by omega⟩
  obtain ⟨_, _, lt⟩ := GR.good_of (chk_all _ h)
  have key : ∀ (L : List Int) (n : Nat) (g : List Int), (∀ p ∈ L, n / p.toNat < n) → g.length = n → L.foldl (fun g p => backs (n / p.toNat) g) g = (L.map Int.toNat).foldl (fun g p => GR.lessT (n / p) g) g := by
    intro L
    induction L with
    | nil => intro n g _ _; rfl
    | cons p L ih =>
      intro n g hL hg
      rw [List.foldl_cons, List.map_cons, List.foldl_cons, backs_eq (by rw [hg]; exact hL p (by simp))]
      exact ih n _ (fun q hq => hL q (by simp [hq])) (by rw [GR.lessT_len]; exact hg)
  unfold lawN GR.zs GR.lawF
  rw [key _ _ _ (fun p hp => (lt p.toNat (by unfold psOf; simp; exact ⟨p, hp, rfl⟩)).2) rfl]
  unfold psOf
  rw [List.foldr_reverse]
theorem redO_eq {n : Nat} {f : List Int} (h : n ∈ ordersL) (hf : f.length = n) : ((redO n f).all fun x => decide (x = 0)) = lawN f := by
  subst hf
  have hn := ord_pos h
  haveI : NeZero f.length := ⟨by omega⟩
  rw [lawN_eq h]
  exact GR.same_nought (chk_all _ h) rfl
theorem ord_fact : ∀ n ∈ slotsL, ordOf n / n * n = ordOf n ∧ 1 ≤ ordOf n / n ∧ 2 ≤ n := by decide
theorem angle_eq {n : Nat} (hm : n ∈ slotsL) (h : Int) (s : Nat) : angle n h s = lawAng n (h % (n : Int)).toNat s := by
  obtain ⟨e, h1, h2⟩ := ord_fact n hm
  unfold angle lawAng
  generalize ordOf n / n = m at *
  rw [← e]
  have hk : (((h % (n : Int)).toNat : Nat) : Int) = h % (n : Int) := Int.toNat_of_nonneg (Int.emod_nonneg _ (by omega))
  have e1 : (m : Int) * h * (s : Int) % ((m * n : Nat) : Int) = ((((h % (n : Int)).toNat * s % n * m : Nat)) : Int) := by
    rw [Int.natCast_mul, Int.mul_assoc, Int.mul_emod_mul_of_pos _ _ (by omega)]
    rw [Int.natCast_mul, Int.natCast_emod, Int.natCast_mul, hk, Int.mul_comm]
    congr 1
    rw [Int.mul_emod h, Int.mul_emod (h % (n : Int)) (s : Int), Int.emod_emod_of_dvd h (Int.dvd_refl _)]
  rw [e1]
  exact Int.toNat_natCast _
theorem row_eq {P : List (Int × Int)} (hm : P.length ∈ slotsL) (h : Int) : waveRow P h = lawRow P (h % (P.length : Int)).toNat := by
  unfold waveRow lawRow
  congr 1
  funext f q
  rw [angle_eq hm]
theorem hasW_eq {P : List (Int × Int)} (hm : P.length ∈ slotsL) (h : Int) : hasW P h = lawW P (h % (P.length : Int)).toNat := by
  unfold hasW lawW
  rw [row_eq hm, redO_eq (ord_mem hm) (lawRow_len _ _)]
theorem lwvs_mem {P : List (Int × Int)} (hm : P.length ∈ slotsL) (h : Int) : h % (P.length : Int) ∈ lwvs P ↔ hasW P h = true := by
  have hn := slots_pos hm
  have h1 := Int.emod_nonneg h (show (P.length : Int) ≠ 0 by omega)
  have h2 := Int.emod_lt_of_pos h (show (0 : Int) < (P.length : Int) by omega)
  rw [hasW_eq hm]
  generalize h % (P.length : Int) = r at *
  unfold lwvs
  rw [List.mem_map]
  constructor
  · rintro ⟨k, hk, rfl⟩
    rw [List.mem_filter] at hk
    simpa using hk.2
  · intro hw
    exact ⟨r.toNat, List.mem_filter.mpr ⟨List.mem_range.mpr (by omega), hw⟩, by omega⟩
theorem wvs_eq {P : List (Int × Int)} (hm : P.length ∈ slotsL) : wvs P = lwvs P := by
  have hn := slots_pos hm
  unfold wvs lwvs
  congr 1
  apply List.filter_congr
  intro k hk
  have hk := List.mem_range.mp hk
  rw [hasW_eq hm, Int.emod_eq_of_lt (by omega) (by omega)]
  rfl
theorem rip_eq {P : List (Int × Int)} (hm : P.length ∈ slotsL) (p m : Nat) : lrip (lwvs P) P.length p m = rip P p m := by
  unfold lrip rip
  have e1 : (2 * (m : Int) + 1) * (p : Int) = (p : Int) + 2 * (m : Int) * (p : Int) := by rw [Int.add_mul, Int.one_mul, Int.add_comm]
  have h1 := lwvs_mem hm ((p : Int) + 2 * (m : Int) * (p : Int))
  have h2 := lwvs_mem hm ((p : Int) - 2 * (m : Int) * (p : Int))
  have b1 : decide (((p : Int) + 2 * (m : Int) * (p : Int)) % (P.length : Int) ∈ lwvs P) = hasW P ((p : Int) + 2 * (m : Int) * (p : Int)) := by
    rw [Bool.eq_iff_iff, decide_eq_true_iff]; exact h1
  have b2 : decide (((p : Int) - 2 * (m : Int) * (p : Int)) % (P.length : Int) ∈ lwvs P) = hasW P ((p : Int) - 2 * (m : Int) * (p : Int)) := by
    rw [Bool.eq_iff_iff, decide_eq_true_iff]; exact h2
  have e2 : 0 - (2 * (m : Int) - 1) * (p : Int) = (p : Int) - 2 * (m : Int) * (p : Int) := by rw [Int.sub_mul, Int.one_mul]; omega
  rw [e1, e2, b1, b2]
  by_cases h0 : m = 0
  · subst h0
    simp
  · have : decide (0 < 2 * (m : Int) - 1) = true := by rw [decide_eq_true_iff]; omega
    rw [this, Bool.true_and]
/-- the law's own lobes -/
def lobO (d p : Nat) (W : List Int) (odd : Int) : List Int := W.flatMap fun h => [(odd * p - h) % (d : Int), (h - odd * p) % (d : Int)]
theorem lobO_eq {d p : Nat} (hd : (d : Int) ∣ 2 * p) (W : List Int) {odd : Int} (h : odd % 2 = 1) : lobO d p W odd = lobF p d W := by
  unfold lobO lobF
  congr 1
  funext x
  obtain ⟨c, hc⟩ := hd
  have hk : odd = 2 * (odd / 2) + 1 := by omega
  generalize odd / 2 = k at hk
  have e : odd * (p : Int) = p + (d : Int) * (c * k) := by
    rw [hk, Int.add_mul, Int.one_mul, Int.mul_right_comm, hc, Int.mul_assoc, Int.add_comm]
  rw [e]
  have e1 : (p : Int) + (d : Int) * (c * k) - x = (p - x) + (d : Int) * (c * k) := by omega
  have e2 : x - ((p : Int) + (d : Int) * (c * k)) = (x - p) + (d : Int) * (-(c * k)) := by rw [Int.mul_neg]; omega
  rw [e1, e2, Int.add_mul_emod_self_left, Int.add_mul_emod_self_left]
/-- the greatest of the divisors -/
theorem max_gcd {n p : Nat} (hn : 1 ≤ n) : let L := ((List.range n).filter fun (k : Nat) => decide (2 * p % (k + 1) = 0) && decide (n % (k + 1) = 0)).map fun (k : Nat) => ((k + 1 : Nat) : Int)
    ((dv n p : Nat) : Int) ∈ L ∧ ∀ x ∈ L, x ≤ ((dv n p : Nat) : Int) := by
  intro L
  have h1 : 0 < Nat.gcd (2 * p) n := Nat.gcd_pos_of_pos_right _ (by omega)
  have h2 : Nat.gcd (2 * p) n ≤ n := Nat.gcd_le_right _ (by omega)
  constructor
  · refine List.mem_map.mpr ⟨dv n p - 1, List.mem_filter.mpr ⟨List.mem_range.mpr (by unfold dv; omega), ?_⟩, by unfold dv; omega⟩
    have e : dv n p - 1 + 1 = Nat.gcd (2 * p) n := by unfold dv; omega
    rw [e]
    simp [Nat.mod_eq_zero_of_dvd (Nat.gcd_dvd_left _ _), Nat.mod_eq_zero_of_dvd (Nat.gcd_dvd_right _ _)]
  · intro x hx
    obtain ⟨k, hk, rfl⟩ := List.mem_map.mp hx
    rw [List.mem_filter] at hk
    have h3 := hk.2
    simp only [Bool.and_eq_true, decide_eq_true_eq] at h3
    have : k + 1 ∣ Nat.gcd (2 * p) n := Nat.dvd_gcd (Nat.dvd_of_mod_eq_zero h3.1) (Nat.dvd_of_mod_eq_zero h3.2)
    have := Nat.le_of_dvd h1 this
    unfold dv
    omega
end K76

-- K75F
/-! K75F: what the further defs do. -/
namespace K75
open PySem PySem.Spec L2 VL PyProof.Rows K76
def mulP (p q : Int × Int) : Int × Int := (p.1 * q.1 - p.2 * q.2, p.1 * q.2 + p.2 * q.1 - p.2 * q.2)
def nrm (p : Int × Int) : Int := p.1 * p.1 - p.1 * p.2 + p.2 * p.2
def corn : Int × Int → List (Int × Int) → List (Int × Int)
  | _, [] => []
  | h, p :: P => h :: corn (h.1 + p.1, h.2 + p.2) P
def polyg (P : List (Int × Int)) : List (Int × Int) := (corn (0, 0) P).map fun c => ((P.length : Int) * c.1 - (psum (corn (0, 0) P)).1, (P.length : Int) * c.2 - (psum (corn (0, 0) P)).2)
def seen (m : Nat) (p : Int × Int) : Int := if m % 2 = 0 then 2 * (six (m / 2 % 6) p).1 - (six (m / 2 % 6) p).2 else (six (m / 2 % 6) p).1 - (six (m / 2 % 6) p).2
def hasO (f : List Int) (o : Nat) : Bool := !(remP f (polyT o)).all fun x => decide (x = 0)
def fs_check_whole : FS := fun ds Q => ∃ h : Int, ds = [.int h] ∧ Q .non false []
def fs_order_at : FS := fun ds Q => ∃ (n : Nat) (h : Int), ds = [.int n, .int h] ∧ 1 ≤ n ∧ n < 1000 ∧ Q (.int (n / Int.gcd h n : Nat)) false []
def fs_has_order : FS := fun ds Q => ∃ (f : List Int) (o : Nat), ds = [li f, .int o] ∧ o ∈ ordersL ∧ (polyT o).length ≤ f.length ∧ f.length ≤ 1000 ∧ Q (.bl (hasO f o)) false []
/-- of no great size -/
def sm (x : Int) : Prop := x.natAbs.log2 < 250
def smP (p : Int × Int) : Prop := sm p.1 ∧ sm p.2
def fs_multiplied : FS := fun ds Q => ∃ p q : Int × Int, ds = [pD p, pD q] ∧ smP p ∧ smP q ∧ Q (pD (mulP p q)) false []
def fs_led_round : FS := fun ds Q => ∃ (p : Int × Int) (m : Int), ds = [pD p, .int m] ∧ Q (pD (six (m % 6).toNat p)) false []
def fs_norm_in : FS := fun ds Q => ∃ p : Int × Int, ds = [pD p] ∧ smP p ∧ Q (.int (nrm p)) false []
def fs_check_three_phases : FS := fun ds Q => ∃ (n : Nat) (a b c : List Int), ds = [wD a b c] ∧ Wd n a b c ∧ Q .non false []
def fs_corners_of : FS := fun ds Q => ∃ (n : Nat) (a b c : List Int), ds = [wD a b c] ∧ Wd n a b c ∧ Q (lp (corn (0, 0) (ptsOf a b c))) true []
def fs_polygon_of : FS := fun ds Q => ∃ (n : Nat) (a b c : List Int), ds = [wD a b c] ∧ Wd n a b c ∧ Q (lp (polyg (ptsOf a b c))) true []
def fs_check_moment : FS := fun ds Q => ∃ m : Nat, ds = [.int m] ∧ m < 12 ∧ Q .non false []
def fs_seen_at : FS := fun ds Q => ∃ (p : Int × Int) (m : Nat), ds = [pD p, .int m] ∧ m < 12 ∧ Q (.int (seen m p)) false []
def fs_field_of : FS := fun ds Q => ∃ (n : Nat) (a b c : List Int) (m : Nat), ds = [wD a b c, .int m] ∧ Wd n a b c ∧ m < 12 ∧ Q (li ((polyg (ptsOf a b c)).map (seen m))) true []
def fs_norms_of : FS := fun ds Q => ∃ (n : Nat) (a b c : List Int), ds = [wD a b c] ∧ Wd n a b c ∧ Q (li ((polyg (ptsOf a b c)).map nrm)) true []
def fs_squares_of : FS := fun ds Q => ∃ (n : Nat) (a b c : List Int), ds = [wD a b c] ∧ Wd n a b c ∧ Q (lp ((polyg (ptsOf a b c)).map fun p => mulP p p)) true []
def fs_can_reach : FS := fun ds Q => ∃ (n : Nat) (h : Int), ds = [.int n, .int h] ∧ 1 ≤ n ∧ Q (.bl (decide (h = 0) || !decide (h % (n : Int) = 0))) false []
def Un (h : Int) : Prop := h = 1 ∨ h = -1
def stnd (P : List (Int × Int)) : Bool := hasO ((polyg P).map nrm) P.length
def bts (P : List (Int × Int)) (h : Int) : Bool := hasW ((polyg P).map fun p => mulP p p) h
def sqF (P : List (Int × Int)) (m : Nat) : List Int := (polyg P).map fun p => seen m p * seen m p
def pul (P : List (Int × Int)) (m : Nat) : Bool := hasO (sqF P m) P.length
def fs_stands : FS := fun ds Q => ∃ (n : Nat) (a b c : List Int) (h : Int), ds = [wD a b c, .int h] ∧ Wd n a b c ∧ Un h ∧ Q (.bl (stnd (ptsOf a b c))) false []
def fs_beats : FS := fun ds Q => ∃ (n : Nat) (a b c : List Int) (h : Int), ds = [wD a b c, .int h] ∧ Wd n a b c ∧ Un h ∧ Q (.bl (bts (ptsOf a b c) h)) false []
def fs_is_beating_one_sided : FS := fun ds Q => ∃ (n : Nat) (a b c : List Int), ds = [wD a b c] ∧ Wd n a b c ∧ Q (.bl (bts (ptsOf a b c) 1 || bts (ptsOf a b c) (-1))) false []
def fs_pulls_at : FS := fun ds Q => ∃ (n : Nat) (a b c : List Int) (m : Nat), ds = [wD a b c, .int m] ∧ Wd n a b c ∧ m < 12 ∧ Q (.bl (pul (ptsOf a b c) m)) false []
def fs_has_standing : FS := fs_stands
def fs_has_beating : FS := fs_beats
def fs_pulls : FS := fun ds Q => ∃ (n : Nat) (a b c : List Int), ds = [wD a b c] ∧ Wd n a b c ∧ Q (.tup [.bl (stnd (ptsOf a b c)), .bl (bts (ptsOf a b c) 1 || bts (ptsOf a b c) (-1))]) false []
def fs_is_pulled_at : FS := fs_pulls_at
def fs_law_norm : FS := fs_norm_in
def fs_law_times : FS := fs_multiplied
def fs_law_polygon : FS := fun ds Q => ∃ P : List (Int × Int), ds = [lp P] ∧ P.length ∈ slotsL ∧ Q (lp (polyg P)) true []
def fs_law_urn : FS := K76.fs_law_urn
def fs_law_right : FS := fun ds Q => ∃ u : List D, ds = [.lst u] ∧ U u ∧ ∀ u', U u' → Q (.bl true) false [.lst u']
def fs_law0 : FS := fun ds Q => ∃ ns : List Int, ds = [.fz (ns.map D.int)] ∧ ns.length ≤ 63 ∧ Q (.bl true) false []
end K75

-- K75B
namespace K75
open PySem PySem.Spec L2 VL PyProof.Rows K76
/-- check_whole(value) -/
def b_check_whole : WS := (sCons (sIf (tNotW (tV (wCall 1 [] fs_is_whole (aCons (oE (wVar 0)) aNil))))
  (sCons sNever
  sNil)
  sNil)
  sNil)
/-- order_at(slots, harmonic) -/
def b_order_at : WS := (sCons (sRet (w2 vDiv (oVar 0) (oE (wB oGcd (aCons (oVar 1) (aCons (oVar 0) aNil))))))
  sNil)
/-- has_order(row, order, rest, number) -/
def b_has_order : WS := (sCons (sSet 2 (w2 vIx (oE (wCall 2 [] fs_poly_parted (aCons (oE (wB oList (aCons (oVar 0) aNil))) (aCons (oE (wCall 1 [] fs_polynomial_of_order (aCons (oE (wVar 1)) aNil))) aNil)))) (oE (wC (.int 1)))))
  (sCons (sRet (w2 vNe (oE (wLc (iSeq (wVar 2)) (gNm 3) (tV (w2 vNe (oVar 3) (oE (wC (.int 0))))) (wVar 3) [3])) (oE (wLst aNil))))
  sNil))
/-- multiplied(point, other, low) -/
def b_multiplied : WS := (sCons (sSet 2 (w2 vMul (oE (w2 vIx (oVar 0) (oE (wC (.int 1))))) (oE (w2 vIx (oVar 1) (oE (wC (.int 1)))))))
  (sCons (sRet (wTup (aCons (oE (w2 vSub (oE (w2 vMul (oE (w2 vIx (oVar 0) (oE (wC (.int 0))))) (oE (w2 vIx (oVar 1) (oE (wC (.int 0))))))) (oVar 2))) (aCons (oE (w2 vSub (oE (w2 vAdd (oE (w2 vMul (oE (w2 vIx (oVar 0) (oE (wC (.int 0))))) (oE (w2 vIx (oVar 1) (oE (wC (.int 1))))))) (oE (w2 vMul (oE (w2 vIx (oVar 0) (oE (wC (.int 1))))) (oE (w2 vIx (oVar 1) (oE (wC (.int 0))))))))) (oVar 2))) aNil))))
  sNil))
/-- led_round(point, sixths, _, first, second) -/
def b_led_round : WS := (sCons (sAsg (wVar 0) (gTp 2 (gsCons (gNm 3) (gsCons (gNm 4) gsNil))))
  (sCons (sFor (iRange1 (aCons (oE (w2 vMod (oVar 1) (oE (wC (.int 6))))) aNil)) (gNm 2)
  (sCons (sPar [3, 4] (fCons (w2 vSub (oVar 3) (oVar 4)) (fCons (wVar 3) fNil)))
  sNil))
  (sCons (sRet (wTup (aCons (oE (wVar 3)) (aCons (oE (wVar 4)) aNil))))
  sNil)))
/-- norm_in(point) -/
def b_norm_in : WS := (sCons (sRet (w2 vAdd (oE (w2 vSub (oE (w2 vMul (oE (w2 vIx (oVar 0) (oE (wC (.int 0))))) (oE (w2 vIx (oVar 0) (oE (wC (.int 0))))))) (oE (w2 vMul (oE (w2 vIx (oVar 0) (oE (wC (.int 0))))) (oE (w2 vIx (oVar 0) (oE (wC (.int 1))))))))) (oE (w2 vMul (oE (w2 vIx (oVar 0) (oE (wC (.int 1))))) (oE (w2 vIx (oVar 0) (oE (wC (.int 1)))))))))
  sNil)
/-- check_three_phases(winding) -/
def b_check_three_phases : WS := (sCons (sDrop (wCall 1 [] fs_check_winding (aCons (oE (wVar 0)) aNil)))
  (sCons (sDrop (wCall 1 [] fs_check_three (aCons (oE (wVar 0)) aNil)))
  sNil))
/-- corners_of(winding, point, first, second, found) -/
def b_corners_of : WS := (sCons (sPar [2, 3, 4] (fCons (wC (.int 0)) (fCons (wC (.int 0)) (fCons (wLst aNil) fNil))))
  (sCons (sFor (iSeq (wCall 1 [] fs_points_of (aCons (oE (wVar 0)) aNil))) (gNm 1)
  (sCons (sDrop (wApp 4 (wTup (aCons (oE (wVar 2)) (aCons (oE (wVar 3)) aNil)))))
  (sCons (sPar [2, 3] (fCons (w2 vAdd (oVar 2) (oE (w2 vIx (oVar 1) (oE (wC (.int 0)))))) (fCons (w2 vAdd (oVar 3) (oE (w2 vIx (oVar 1) (oE (wC (.int 1)))))) fNil)))
  sNil)))
  (sCons (sRetV 4)
  sNil)))
/-- polygon_of(winding, row, many, first, second, point) -/
def b_polygon_of : WS := (sCons (sSet 1 (wCall 1 [] fs_corners_of (aCons (oE (wVar 0)) aNil)))
  (sCons (sSet 2 (wB oLen (aCons (oVar 1) aNil)))
  (sCons (sPar [3, 4] (fCons (wB oSum (aCons (oE (wLc (iSeq (wVar 1)) (gNm 5) tTrue (w2 vIx (oVar 5) (oE (wC (.int 0)))) [5])) aNil)) (fCons (wB oSum (aCons (oE (wLc (iSeq (wVar 1)) (gNm 5) tTrue (w2 vIx (oVar 5) (oE (wC (.int 1)))) [5])) aNil)) fNil)))
  (sCons (sRet (wLc (iSeq (wVar 1)) (gNm 5) tTrue (wTup (aCons (oE (w2 vSub (oE (w2 vMul (oVar 2) (oE (w2 vIx (oVar 5) (oE (wC (.int 0))))))) (oVar 3))) (aCons (oE (w2 vSub (oE (w2 vMul (oVar 2) (oE (w2 vIx (oVar 5) (oE (wC (.int 1))))))) (oVar 4))) aNil))) [5]))
  sNil))))
/-- check_moment(value) -/
def b_check_moment : WS := (sCons (sIf (tNotW (tV (wCall 3 [] fs_is_between (aCons (oE (wVar 0)) (aCons (oE (wC (.int 0))) (aCons (oE (w2 vSub (oE (wC (.int 12))) (oE (wC (.int 1))))) aNil))))))
  (sCons sNever
  sNil)
  sNil)
  sNil)
/-- seen_at(point, moment, first, second) -/
def b_seen_at : WS := (sCons (sAsg (wCall 2 [] fs_led_round (aCons (oE (wVar 0)) (aCons (oE (w2 vDiv (oVar 1) (oE (wC (.int 2))))) aNil))) (gTp 2 (gsCons (gNm 2) (gsCons (gNm 3) gsNil))))
  (sCons (sRet (wIf (tV (w2 vEq (oE (w2 vMod (oVar 1) (oE (wC (.int 2))))) (oE (wC (.int 0))))) (w2 vSub (oE (w2 vMul (oE (wC (.int 2))) (oVar 2))) (oVar 3)) (w2 vSub (oVar 2) (oVar 3))))
  sNil))
/-- field_of(winding, moment, point) -/
def b_field_of : WS := (sCons (sRet (wLc (iSeq (wCall 1 [] fs_polygon_of (aCons (oE (wVar 0)) aNil))) (gNm 2) tTrue (wCall 2 [] fs_seen_at (aCons (oE (wVar 2)) (aCons (oE (wVar 1)) aNil))) [2]))
  sNil)
/-- norms_of(winding, point) -/
def b_norms_of : WS := (sCons (sRet (wLc (iSeq (wCall 1 [] fs_polygon_of (aCons (oE (wVar 0)) aNil))) (gNm 1) tTrue (wCall 1 [] fs_norm_in (aCons (oE (wVar 1)) aNil)) [1]))
  sNil)
/-- squares_of(winding, point) -/
def b_squares_of : WS := (sCons (sRet (wLc (iSeq (wCall 1 [] fs_polygon_of (aCons (oE (wVar 0)) aNil))) (gNm 1) tTrue (wCall 2 [] fs_multiplied (aCons (oE (wVar 1)) (aCons (oE (wVar 1)) aNil))) [1]))
  sNil)
/-- can_reach(slots, lobes) -/
def b_can_reach : WS := (sCons (sRet (wOrV (w2 vEq (oVar 1) (oE (wC (.int 0)))) (w2 vNe (oE (w2 vMod (oVar 1) (oVar 0))) (oE (wC (.int 0))))))
  sNil)
/-- stands(winding, lobes, slots) -/
def b_stands : WS := (sCons (sSet 2 (wB oLen (aCons (oE (w2 vIx (oVar 0) (oE (wC (.int 0))))) aNil)))
  (sCons (sRet (wAndV (wCall 2 [] fs_can_reach (aCons (oE (wVar 2)) (aCons (oE (wVar 1)) aNil))) (wCall 2 [] fs_has_order (aCons (oE (wCall 1 [] fs_norms_of (aCons (oE (wVar 0)) aNil))) (aCons (oE (wCall 2 [] fs_order_at (aCons (oE (wVar 2)) (aCons (oE (wVar 1)) aNil)))) aNil)))))
  sNil))
/-- beats(winding, lobes) -/
def b_beats : WS := (sCons (sRet (wAndV (wCall 2 [] fs_can_reach (aCons (oE (wB oLen (aCons (oE (w2 vIx (oVar 0) (oE (wC (.int 0))))) aNil))) (aCons (oE (wVar 1)) aNil))) (wNotV (wCall 1 [] fs_is_nothing (aCons (oE (wCall 2 [] fs_taken_by (aCons (oE (wCall 1 [] fs_squares_of (aCons (oE (wVar 0)) aNil))) (aCons (oE (wVar 1)) aNil)))) aNil)))))
  sNil)
/-- is_beating_one_sided(winding) -/
def b_is_beating_one_sided : WS := (sCons (sRet (wOrV (wCall 2 [] fs_beats (aCons (oE (wVar 0)) (aCons (oE (wC (.int 1))) aNil))) (wCall 2 [] fs_beats (aCons (oE (wVar 0)) (aCons (oE (w1 vNeg (oE (wC (.int 1))))) aNil)))))
  sNil)
/-- pulls_at(winding, moment, squares, number) -/
def b_pulls_at : WS := (sCons (sSet 2 (wLc (iSeq (wCall 2 [] fs_field_of (aCons (oE (wVar 0)) (aCons (oE (wVar 1)) aNil)))) (gNm 3) tTrue (w2 vMul (oVar 3) (oVar 3)) [3]))
  (sCons (sRet (wCall 2 [] fs_has_order (aCons (oE (wVar 2)) (aCons (oE (wB oLen (aCons (oVar 2) aNil))) aNil))))
  sNil))
/-- has_standing(winding, lobes) -/
def b_has_standing : WS := (sCons (sDrop (wCall 1 [] fs_check_winding (aCons (oE (wVar 0)) aNil)))
  (sCons (sDrop (wCall 1 [] fs_check_whole (aCons (oE (wVar 1)) aNil)))
  (sCons (sDrop (wCall 1 [] fs_check_three (aCons (oE (wVar 0)) aNil)))
  (sCons (sRet (wCall 2 [] fs_stands (aCons (oE (wVar 0)) (aCons (oE (wVar 1)) aNil))))
  sNil))))
/-- has_beating(winding, lobes) -/
def b_has_beating : WS := (sCons (sDrop (wCall 1 [] fs_check_winding (aCons (oE (wVar 0)) aNil)))
  (sCons (sDrop (wCall 1 [] fs_check_whole (aCons (oE (wVar 1)) aNil)))
  (sCons (sDrop (wCall 1 [] fs_check_three (aCons (oE (wVar 0)) aNil)))
  (sCons (sRet (wCall 2 [] fs_beats (aCons (oE (wVar 0)) (aCons (oE (wVar 1)) aNil))))
  sNil))))
/-- pulls(winding) -/
def b_pulls : WS := (sCons (sDrop (wCall 1 [] fs_check_three_phases (aCons (oE (wVar 0)) aNil)))
  (sCons (sRet (wTup (aCons (oE (wCall 2 [] fs_stands (aCons (oE (wVar 0)) (aCons (oE (wC (.int 1))) aNil)))) (aCons (oE (wCall 1 [] fs_is_beating_one_sided (aCons (oE (wVar 0)) aNil))) aNil))))
  sNil))
/-- is_pulled_at(winding, moment) -/
def b_is_pulled_at : WS := (sCons (sDrop (wCall 1 [] fs_check_winding (aCons (oE (wVar 0)) aNil)))
  (sCons (sDrop (wCall 1 [] fs_check_moment (aCons (oE (wVar 1)) aNil)))
  (sCons (sDrop (wCall 1 [] fs_check_three (aCons (oE (wVar 0)) aNil)))
  (sCons (sRet (wCall 2 [] fs_pulls_at (aCons (oE (wVar 0)) (aCons (oE (wVar 1)) aNil))))
  sNil))))
/-- _law_urn(script, turn, own, stirred, cell, seed) -/
def b_law_urn : WS := (sCons (sSet 2 (wIf (tV (w2 vLt (oVar 1) (oE (wB oLen (aCons (oVar 0) aNil))))) (wB oInt (aCons (oE (w2 vIx (oVar 0) (oVar 1))) aNil)) (w2 vAdd (oE (w2 vMul (oE (wC (.int 613))) (oVar 1))) (oE (wC (.int 211))))))
  (sCons (sSet 3 (w2 vAdd (oE (wC (.int 148976))) (oE (w2 vMul (oE (wC (.int 6007))) (oVar 1)))))
  (sCons (sFor (iSeq (wSl (oVar 0) pNone (pSome (wC (.int 8))))) (gNm 4)
  (sCons (sSet 3 (w2 vMod (oE (wB oInt (aCons (oE (w2 vAdd (oE (w2 vAdd (oE (w2 vMul (oVar 3) (oE (wC (.int 48889))))) (oE (w2 vMod (oE (wB oInt (aCons (oVar 4) aNil))) (oE (wC (.int 2147483563))))))) (oE (wC (.int 19))))) aNil))) (oE (wC (.int 2147483647)))))
  sNil))
  (sCons (sSet 5 (w2 vMod (oE (wB oInt (aCons (oE (w2 vAdd (oE (w2 vMul (oVar 3) (oE (wC (.int 101))))) (oE (w2 vMul (oE (w2 vMod (oE (wB oInt (aCons (oVar 2) aNil))) (oE (wC (.int 2147483563))))) (oE (wC (.int 40507))))))) aNil))) (oE (wC (.int 2147483647)))))
  (sCons (sRet (wLst (aCons (oE (wIf (tOrW (tV (w2 vLt (oVar 2) (oE (wC (.int 0))))) (tV (w2 vGe (oVar 2) (oE (w2 vPow (oE (wC (.int 10))) (oE (wC (.int 17)))))))) (wB oAbs (aCons (oVar 2) aNil)) (wC (.int 0)))) (aCons (oE (wVar 5)) (aCons (oE (wC (.int 0))) aNil)))))
  sNil)))))
/-- _law_norm(point) -/
def b_law_norm : WS := (sCons (sRet (w2 vAdd (oE (w2 vSub (oE (w2 vMul (oE (w2 vIx (oVar 0) (oE (wC (.int 0))))) (oE (w2 vIx (oVar 0) (oE (wC (.int 0))))))) (oE (w2 vMul (oE (w2 vIx (oVar 0) (oE (wC (.int 0))))) (oE (w2 vIx (oVar 0) (oE (wC (.int 1))))))))) (oE (w2 vMul (oE (w2 vIx (oVar 0) (oE (wC (.int 1))))) (oE (w2 vIx (oVar 0) (oE (wC (.int 1)))))))))
  sNil)
/-- _law_times(one, two) -/
def b_law_times : WS := (sCons (sRet (wTup (aCons (oE (w2 vSub (oE (w2 vMul (oE (w2 vIx (oVar 0) (oE (wC (.int 0))))) (oE (w2 vIx (oVar 1) (oE (wC (.int 0))))))) (oE (w2 vMul (oE (w2 vIx (oVar 0) (oE (wC (.int 1))))) (oE (w2 vIx (oVar 1) (oE (wC (.int 1))))))))) (aCons (oE (w2 vSub (oE (w2 vAdd (oE (w2 vMul (oE (w2 vIx (oVar 0) (oE (wC (.int 0))))) (oE (w2 vIx (oVar 1) (oE (wC (.int 1))))))) (oE (w2 vMul (oE (w2 vIx (oVar 0) (oE (wC (.int 1))))) (oE (w2 vIx (oVar 1) (oE (wC (.int 0))))))))) (oE (w2 vMul (oE (w2 vIx (oVar 0) (oE (wC (.int 1))))) (oE (w2 vIx (oVar 1) (oE (wC (.int 1))))))))) aNil))))
  sNil)
/-- _law_polygon(points, point, slots, corners, here, one, two, corner) -/
def b_law_polygon : WS := (sCons (sPar [2, 3, 4] (fCons (wB oLen (aCons (oVar 0) aNil)) (fCons (wLst aNil) (fCons (wTup (aCons (oE (wC (.int 0))) (aCons (oE (wC (.int 0))) aNil))) fNil))))
  (sCons (sFor (iSeq (wVar 0)) (gNm 1)
  (sCons (sDrop (wApp 3 (wVar 4)))
  (sCons (sSet 4 (wTup (aCons (oE (w2 vAdd (oE (w2 vIx (oVar 4) (oE (wC (.int 0))))) (oE (w2 vIx (oVar 1) (oE (wC (.int 0))))))) (aCons (oE (w2 vAdd (oE (w2 vIx (oVar 4) (oE (wC (.int 1))))) (oE (w2 vIx (oVar 1) (oE (wC (.int 1))))))) aNil))))
  sNil)))
  (sCons (sPar [5, 6] (fCons (wB oSum (aCons (oE (wLc (iSeq (wVar 3)) (gNm 7) tTrue (w2 vIx (oVar 7) (oE (wC (.int 0)))) [7])) aNil)) (fCons (wB oSum (aCons (oE (wLc (iSeq (wVar 3)) (gNm 7) tTrue (w2 vIx (oVar 7) (oE (wC (.int 1)))) [7])) aNil)) fNil)))
  (sCons (sRet (wLc (iSeq (wVar 3)) (gNm 7) tTrue (wTup (aCons (oE (w2 vSub (oE (w2 vMul (oVar 2) (oE (w2 vIx (oVar 7) (oE (wC (.int 0))))))) (oVar 5))) (aCons (oE (w2 vSub (oE (w2 vMul (oVar 2) (oE (w2 vIx (oVar 7) (oE (wC (.int 1))))))) (oVar 6))) aNil))) [7]))
  sNil))))
/-- _law_right(urn, slots, winding, moment, standing, squares, ways, due, points, pulled, row, point, each, lobes, one, two) -/
def b_law_right : WS := (sCons (sSet 1 (wCall 2 [0] fs_law_pick (aCons (oVar 0) (aCons (oE (wLst (aCons (oE (wC (.int 6))) (aCons (oE (wC (.int 4))) (aCons (oE (wC (.int 9))) (aCons (oE (wC (.int 3))) (aCons (oE (wC (.int 8))) (aCons (oE (wC (.int 5))) (aCons (oE (wC (.int 2))) (aCons (oE (wC (.int 7))) (aCons (oE (wC (.int 10))) aNil))))))))))) aNil))))
  (sCons (sSet 2 (wCall 2 [0] fs_law_three (aCons (oVar 0) (aCons (oE (wVar 1)) aNil))))
  (sCons (sPar [8, 9] (fCons (wCall 1 [] fs_law_polygon (aCons (oE (wCall 1 [] fs_law_points (aCons (oE (wVar 2)) aNil))) aNil)) (fCons (wLst aNil) fNil)))
  (sCons (sFor (iRange1 (aCons (oE (wC (.int 12))) aNil)) (gNm 3)
  (sCons (sSet 10 (wLst aNil))
  (sCons (sFor (iSeq (wVar 8)) (gNm 11)
  (sCons (sAsg (wCall 2 [] fs_law_sixths (aCons (oE (wVar 11)) (aCons (oE (w2 vDiv (oVar 3) (oE (wC (.int 2))))) aNil))) (gTp 2 (gsCons (gNm 14) (gsCons (gNm 15) gsNil))))
  (sCons (sSet 12 (wIf (tV (w2 vEq (oE (w2 vMod (oE (wB oInt (aCons (oVar 3) aNil))) (oE (wC (.int 2))))) (oE (wC (.int 0))))) (w2 vSub (oE (w2 vMul (oE (wC (.int 2))) (oVar 14))) (oVar 15)) (w2 vSub (oVar 14) (oVar 15))))
  (sCons (sDrop (wApp 10 (w2 vMul (oVar 12) (oVar 12))))
  sNil))))
  (sCons (sSet 7 (wNotV (wCall 1 [] fs_law_is_nought (aCons (oE (wVar 10)) aNil))))
  (sCons (sDrop (wApp 9 (wVar 7)))
  (sCons (sIf (tV (w2 vNeS (oE (wB oRepr (aCons (oE (wLst (aCons (oE (wCall 2 [] fs_is_pulled_at (aCons (oE (wVar 2)) (aCons (oE (wVar 3)) aNil)))) (aCons (oE (wCall 2 [] fs_is_pulled_at (wPerm [1, 0] (aCons (oE (wVar 3)) (aCons (oE (wVar 2)) aNil))))) aNil)))) aNil))) (oE (wB oRepr (aCons (oE (wLst (aCons (oE (wVar 7)) (aCons (oE (wVar 7)) aNil)))) aNil)))))
  (sCons (sRet (wC (.bl false)))
  sNil)
  sNil)
  sNil))))))
  (sCons (sIf (tV (w2 vNe (oE (wSl (oVar 9) pNone (pSome (wC (.int 6))))) (oE (wSl (oVar 9) (pSome (wC (.int 6))) pNone))))
  (sCons (sRet (wC (.bl false)))
  sNil)
  sNil)
  (sCons (sSet 4 (wNotV (wCall 1 [] fs_law_is_nought (aCons (oE (wLc (iSeq (wVar 8)) (gNm 11) tTrue (wCall 1 [] fs_law_norm (aCons (oE (wVar 11)) aNil)) [11])) aNil))))
  (sCons (sSet 5 (wLc (iSeq (wVar 8)) (gNm 11) tTrue (wCall 2 [] fs_law_times (aCons (oE (wVar 11)) (aCons (oE (wVar 11)) aNil))) [11]))
  (sCons (sSet 6 (wLc (iSeq (wLst (aCons (oE (wC (.int 1))) (aCons (oE (w1 vNeg (oE (wC (.int 1))))) aNil)))) (gNm 13) tTrue (wNotV (wCall 1 [] fs_law_is_nought (aCons (oE (wCall 2 [] fs_law_wave_row (aCons (oE (wVar 5)) (aCons (oE (wVar 13)) aNil)))) aNil))) [13]))
  (sCons (sSet 7 (wTup (aCons (oE (wVar 4)) (aCons (oE (wOrV (w2 vIx (oVar 6) (oE (wC (.int 0)))) (w2 vIx (oVar 6) (oE (wC (.int 1)))))) aNil))))
  (sCons (sIf (tV (w2 vNeS (oE (wB oRepr (aCons (oE (wLst (aCons (oE (wCall 1 [] fs_pulls (aCons (oE (wVar 2)) aNil))) (aCons (oE (wCall 1 [] fs_pulls (wPerm [0] (aCons (oE (wVar 2)) aNil)))) aNil)))) aNil))) (oE (wB oRepr (aCons (oE (wLst (aCons (oE (wVar 7)) (aCons (oE (wVar 7)) aNil)))) aNil)))))
  (sCons (sRet (wC (.bl false)))
  sNil)
  sNil)
  (sCons (sIf (tV (w2 vNeS (oE (wB oRepr (aCons (oE (wLst (aCons (oE (wCall 2 [] fs_has_standing (aCons (oE (wVar 2)) (aCons (oE (wC (.int 1))) aNil)))) (aCons (oE (wCall 2 [] fs_has_beating (aCons (oE (wVar 2)) (aCons (oE (wC (.int 1))) aNil)))) (aCons (oE (wCall 2 [] fs_has_beating (aCons (oE (wVar 2)) (aCons (oE (w1 vNeg (oE (wC (.int 1))))) aNil)))) aNil))))) aNil))) (oE (wB oRepr (aCons (oE (w2 vAdd (oE (wLst (aCons (oE (wVar 4)) aNil))) (oVar 6))) aNil)))))
  (sCons (sRet (wC (.bl false)))
  sNil)
  sNil)
  (sCons (sIf (tV (w2 vEq (oVar 7) (oE (wTup (aCons (oE (wC (.bl false))) (aCons (oE (wC (.bl false))) aNil))))))
  (sCons (sRet (w2 (vIn true) (oE (wC (.bl true))) (oVar 9)))
  sNil)
  sNil)
  (sCons (sRet (w2 vLe (oE (wB oLen (aCons (oE (wLc (iSeq (wSl (oVar 9) pNone (pSome (wC (.int 6))))) (gNm 12) (tNotW (tV (wVar 12))) (wVar 12) [12])) aNil))) (oE (wC (.int 2)))))
  sNil)))))))))))))
/-- law(script, turn) -/
def b_law0 : WS := (sCons (sRet (wB oAll (aCons (oE (wLc (iRange1 (aCons (oE (wB oMax (aCons (oE (wC (.int 2))) (aCons (oE (wB oMin (aCons (oE (wB oLen (aCons (oVar 0) aNil))) (aCons (oE (wC (.int 3))) aNil)))) aNil)))) aNil)) (gNm 1) tTrue (wCallT fs_law_right (wCall 2 [] fs_law_urn (aCons (oE (wVar 0)) (aCons (oE (wVar 1)) aNil)))) [1])) aNil)))
  sNil)
end K75

-- U1
namespace K75
open PySem PySem.Spec L2 VL PyProof.Rows K76
theorem sm_of {x : Int} (h : x.natAbs < 10000000000000000000000000000000) : sm x := by
  unfold sm
  by_cases h0 : x.natAbs = 0
  · rw [h0]; decide
  · exact (Nat.log2_lt h0).mpr (Nat.lt_trans h (by decide))
theorem cm_s {i j : Int} (hi : sm i) (hj : sm j) : CMul i j ∨ CMulW i j := Or.inr (by unfold sm at hi hj; unfold CMulW; omega)
theorem sem_check_whole : Sem 1 1 [] b_check_whole fs_check_whole := by
  rintro ds Qv hl ⟨h, rfl, q⟩
  unfold b_check_whole
  walk_at "vs"
  refine ⟨_, rfl, rfl, ?_⟩
  walk_at "vs"
  simpa [isTy] using q
theorem sem_order_at : Sem 2 2 [] b_order_at fs_order_at := by
  rintro ds Qv hl ⟨n, h, rfl, hn, hn2, q⟩
  unfold b_order_at
  walk_at "vs"
  simp only [Int.natAbs_natCast]
  have e : (n : Int) / ((h.natAbs.gcd n : Nat) : Int) = ((n / Int.gcd h n : Nat) : Int) := by
    rw [Int.natCast_ediv]
    rfl
  have h1 : 0 < h.natAbs.gcd n := Nat.gcd_pos_of_pos_right _ (by omega)
  have h2 : h.natAbs.gcd n ≤ n := Nat.gcd_le_right _ (by omega)
  rw [e]
  exact ⟨⟨by omega, log_9000 (by omega) (by omega)⟩, q⟩
theorem sem_multiplied : Sem 2 3 [] b_multiplied fs_multiplied := by
  rintro ds Qv hl ⟨p, r, rfl, ⟨p1, p2⟩, ⟨r1, r2⟩, q⟩
  unfold b_multiplied
  walk_at "vs"
  refine optI_at (by decide) rfl ?_
  refine optI_at (by decide) rfl ?_
  try walk_at "vs"
  refine ⟨cm_s p2 r2, ?_⟩
  refine optI_at (by decide) rfl ?_
  refine optI_at (by decide) rfl ?_
  try walk_at "vs"
  refine ⟨cm_s p1 r1, ?_⟩
  refine optI_at (by decide) rfl ?_
  refine optI_at (by decide) rfl ?_
  try walk_at "vs"
  refine ⟨cm_s p1 r2, ?_⟩
  refine optI_at (by decide) rfl ?_
  refine optI_at (by decide) rfl ?_
  try walk_at "vs"
  exact ⟨cm_s p2 r1, by decide, q⟩
theorem sem_led_round : Sem 2 5 [] b_led_round fs_led_round := by
  rintro ds Qv hl ⟨p, m, rfl, q⟩
  unfold b_led_round
  walk_at "vs"
  have h1 := Int.emod_nonneg m (show (6 : Int) ≠ 0 by decide)
  have h2 := Int.emod_lt_of_pos m (show (0 : Int) < 6 by decide)
  refine ⟨by decide, by unfold smallI; omega, ?_⟩
  unfold rgD
  have six_s : ∀ (k : Nat) (p : Int × Int), rot (six k p) = six (k + 1) p := by
    intro k
    induction k with
    | zero => intro p; rfl
    | succ k ih => intro p; exact ih (rot p)
  refine loop_invT (fun i Γ => ∃ o2, Γ = [.sh (pD p), .sh (.int m), oS o2, .sh (.int (six i p).1), .sh (.int (six i p).2)]) ⟨none, rfl⟩ ?_ ?_
  · rintro i a Γ k e ⟨o2, rfl⟩ hk
    walk_at "vs"
    refine hk _ ⟨some (.int (0 + (a : Int) * 1)), ?_⟩
    rw [← six_s]
    rfl
  · rintro Γ ⟨o2, rfl⟩
    walk_at "vs"
    rw [List.length_range]
    exact ⟨by decide, q⟩
theorem sem_norm_in : Sem 1 1 [] b_norm_in fs_norm_in := by
  rintro ds Qv hl ⟨p, rfl, ⟨p1, p2⟩, q⟩
  unfold b_norm_in
  walk_at "vs"
  refine optI_at (by decide) rfl ?_
  refine optI_at (by decide) rfl ?_
  try walk_at "vs"
  refine ⟨cm_s p1 p1, ?_⟩
  refine optI_at (by decide) rfl ?_
  refine optI_at (by decide) rfl ?_
  try walk_at "vs"
  refine ⟨cm_s p1 p2, ?_⟩
  refine optI_at (by decide) rfl ?_
  refine optI_at (by decide) rfl ?_
  try walk_at "vs"
  exact ⟨cm_s p2 p2, q⟩
theorem sem_check_three_phases : Sem 1 1 [] b_check_three_phases fs_check_three_phases := by
  rintro ds Qv hl ⟨n, a, b, c, rfl, W, q⟩
  unfold b_check_three_phases
  walk_at "vs"
  refine ⟨n, a, b, c, rfl, W, ?_⟩
  walk_at "vs"
  refine ⟨n, a, b, c, rfl, W, ?_⟩
  walk_at "vs"
  exact q
theorem sem_check_moment : Sem 1 1 [] b_check_moment fs_check_moment := by
  rintro ds Qv hl ⟨m, rfl, hm, q⟩
  unfold b_check_moment
  walk_at "vs"
  refine ⟨_, _, _, rfl, ?_⟩
  walk_at "vs"
  have e1 : decide ((0 : Int) ≤ (m : Int)) = true := by simp
  have e2 : decide ((m : Int) ≤ 12 - 1) = true := by rw [decide_eq_true_iff]; omega
  simp only [e1, e2, Bool.and_self, Bool.not_true, Bool.false_eq_true, if_false]
  exact q
theorem corn_len : ∀ (h : Int × Int) (P : List (Int × Int)), (corn h P).length = P.length
  | _, [] => rfl
  | h, p :: P => by simp [corn, corn_len]
theorem corn_take (P : List (Int × Int)) : ∀ (h : Int × Int) (i : Nat) (p : Int × Int), P[i]? = some p → (corn h P).take (i + 1) = (corn h P).take i ++ [(h.1 + (psum (P.take i)).1, h.2 + (psum (P.take i)).2)] := by
  induction P with
  | nil => intro h i p e; simp at e
  | cons x P ih =>
    intro h i p e
    cases i with
    | zero => simp [corn, psum]
    | succ i =>
      have := ih (h.1 + x.1, h.2 + x.2) i p (by simpa using e)
      simp only [corn, List.take_succ_cons, List.cons_append, this, psum_cons]
      congr 2
      simp only [List.cons.injEq, Prod.mk.injEq, and_true]
      constructor <;> omega
theorem psum_take {P : List (Int × Int)} {i : Nat} {p : Int × Int} (e : P[i]? = some p) : psum (P.take (i + 1)) = ((psum (P.take i)).1 + p.1, (psum (P.take i)).2 + p.2) := by
  rw [List.take_add_one, e, psum_append]
  simp [psum]
theorem sem_corners_of : Sem 1 5 [] b_corners_of fs_corners_of := by
  rintro ds Qv hl ⟨n, a, b, c, rfl, W, q⟩
  have hn := slots_pos W.mem
  have hpl := pts_len W
  unfold b_corners_of
  walk_at "vs"
  refine ⟨by decide, n, a, b, c, rfl, W, ?_⟩
  walk_at "vs"
  generalize ptsOf a b c = P at *
  refine loop_invT (fun i Γ => ∃ o1, Γ = [.sh (wD a b c), oS o1, .sh (.int (psum (P.take i)).1), .sh (.int (psum (P.take i)).2), .ac (((corn (0, 0) P).take i).map pD)]) ⟨none, rfl⟩ ?_ ?_
  · rintro i p Γ k e ⟨o1, rfl⟩ hk
    have hi : i < P.length := (List.getElem?_eq_some_iff.mp e).1
    have e1 := corn_take P (0, 0) i p e
    have e2 := psum_take e
    walk_at "vs"
    refine ⟨by decide, by simp [LN_eq, corn_len]; omega, ?_⟩
    refine optI_at (by decide) rfl ?_
    try walk_at "vs"
    refine optI_at (by decide) rfl ?_
    try walk_at "vs"
    refine hk _ ⟨some (pD p), ?_⟩
    rw [e1, e2, List.map_append]
    simp [oS]
  · rintro Γ ⟨o1, rfl⟩
    walk_at "vs"
    have : (corn (0, 0) P).take P.length = corn (0, 0) P := List.take_of_length_le (by rw [corn_len]; omega)
    rw [this]
    exact q
end K75

-- U2
namespace K75
open PySem PySem.Spec L2 VL PyProof.Rows K76
theorem m1 (C : List (Int × Int)) : C.map (fun p => D.int p.1) = (C.map (·.1)).map D.int := by rw [List.map_map]; rfl
theorem m2 (C : List (Int × Int)) : C.map (fun p => D.int p.2) = (C.map (·.2)).map D.int := by rw [List.map_map]; rfl
theorem polyg_len (P : List (Int × Int)) : (polyg P).length = P.length := by simp [polyg, corn_len]
theorem sem_polygon_of : Sem 1 6 [] b_polygon_of fs_polygon_of := by
  rintro ds Qv hl ⟨n, a, b, c, rfl, W, q⟩
  have hn := slots_pos W.mem
  have hpl := pts_len W
  unfold b_polygon_of
  unfold polyg at q
  have hcl := corn_len (0, 0) (ptsOf a b c)
  refine seq_of (fun Γ => Γ = [.sh (wD a b c), .ac ((corn (0, 0) (ptsOf a b c)).map pD), .un, .un, .un, .un]) (fun k hk => ?_) ?_
  · walk_at "vs"
    refine ⟨n, a, b, c, rfl, W, ?_⟩
    walk_at "vs"
    exact hk _ rfl
  rintro Γ rfl
  generalize corn (0, 0) (ptsOf a b c) = C at *
  have hL : C.length < LN := by rw [LN_eq]; omega
  walk_at "vs"
  simp only [List.length_map]
  refine lc_mapT (fun p => .int p.1) hL (fun p acc kk _ hacc hkk => ?_) ?_
  · walk_at "vs"
    refine optI_at (by decide) rfl ?_
    first
      | exact ⟨hacc, hkk⟩
      | exact ⟨hacc, rfl, hkk⟩
  rw [m1]
  walk_at "vs"
  refine lc_mapT (fun p => .int p.2) hL (fun p acc kk _ hacc hkk => ?_) ?_
  · walk_at "vs"
    refine optI_at (by decide) rfl ?_
    first
      | exact ⟨hacc, hkk⟩
      | exact ⟨hacc, rfl, hkk⟩
  rw [m2]
  walk_at "vs"
  refine lc_mapT (fun p => pD ((C.length : Int) * p.1 - (psum C).1, (C.length : Int) * p.2 - (psum C).2)) hL (fun p acc kk _ hacc hkk => ?_) ?_
  · walk_at "vs"
    refine optI_at (by decide) rfl ?_
    try walk_at "vs"
    refine ⟨cm_l (by omega), ?_⟩
    refine optI_at (by decide) rfl ?_
    try walk_at "vs"
    exact ⟨cm_l (by omega), by decide, hacc, hkk⟩
  rw [hcl]
  simpa [K76.lp, Function.comp_def] using q
theorem sem_seen_at : Sem 2 4 [] b_seen_at fs_seen_at := by
  rintro ds Qv hl ⟨p, m, rfl, hm, q⟩
  unfold b_seen_at
  walk_at "vs"
  refine ⟨⟨by decide, log_9000 (by decide) (by decide)⟩, p, _, rfl, ?_⟩
  walk_at "vs"
  have e1 : ((m : Int) / 2 % 6).toNat = m / 2 % 6 := by omega
  rw [e1]
  unfold seen at q
  refine ⟨by decide, ?_⟩
  by_cases h : m % 2 = 0
  · have h2 : (m : Int) % 2 = 0 := by omega
    simp only [h2, decide_true, if_true]
    rw [if_pos h] at q
    exact ⟨cm_l (by decide), q⟩
  · have h2 : ¬ (m : Int) % 2 = 0 := by omega
    simp only [h2, decide_false, Bool.false_eq_true, if_false]
    rw [if_neg h] at q
    exact q
theorem sem_field_of : Sem 2 3 [] b_field_of fs_field_of := by
  rintro ds Qv hl ⟨n, a, b, c, m, rfl, W, hm, q⟩
  have hn := slots_pos W.mem
  have hpl := pts_len W
  have hpg := polyg_len (ptsOf a b c)
  unfold b_field_of
  walk_at "vs"
  refine ⟨n, a, b, c, rfl, W, ?_⟩
  walk_at "vs"
  refine lc_mapT (fun p => .int (seen m p)) (by rw [LN_eq]; omega) (fun p acc kk _ hacc hkk => ?_) ?_
  · walk_at "vs"
    refine ⟨p, m, rfl, hm, ?_⟩
    walk_at "vs"
    exact ⟨hacc, hkk⟩
  simpa [li, Function.comp_def] using q
/-- no point of the polygon is of great size -/
theorem corn_bd {B : Nat} : ∀ (P : List (Int × Int)) (h : Int × Int) (k : Nat), (∀ p ∈ P, p.1.natAbs ≤ B ∧ p.2.natAbs ≤ B) → h.1.natAbs ≤ k * B → h.2.natAbs ≤ k * B → ∀ x ∈ corn h P, x.1.natAbs ≤ (k + P.length) * B ∧ x.2.natAbs ≤ (k + P.length) * B
  | [], _, _, _, _, _, x, hx => by simp [corn] at hx
  | p :: P, h, k, hP, h1, h2, x, hx => by
    have hp := hP p (by simp)
    rw [corn] at hx
    have e : (k + (p :: P).length) * B = (k + 1 + P.length) * B := by congr 1; simp; omega
    have e1 : (k + 1) * B = k * B + B := Nat.succ_mul k B
    rw [e]
    rcases List.mem_cons.mp hx with rfl | hx
    · have : k * B ≤ (k + 1 + P.length) * B := Nat.mul_le_mul_right _ (by omega)
      omega
    · exact corn_bd P _ (k + 1) (fun y hy => hP y (by simp [hy])) (by dsimp only; omega) (by dsimp only; omega) x hx
theorem psum_bd {B : Nat} : ∀ (F : List (Int × Int)), (∀ p ∈ F, p.1.natAbs ≤ B ∧ p.2.natAbs ≤ B) → (psum F).1.natAbs ≤ F.length * B ∧ (psum F).2.natAbs ≤ F.length * B
  | [], _ => by simp [psum]
  | p :: F, h => by
    have ih := psum_bd F fun r hr => h r (by simp [hr])
    have hp := h p (by simp)
    rw [psum_cons, List.length_cons, Nat.succ_mul]
    dsimp only
    omega
theorem polyg_bd {n : Nat} {a b c : List Int} (W : Wd n a b c) : ∀ p ∈ polyg (ptsOf a b c), p.1.natAbs < 1000000000000000000000000 ∧ p.2.natAbs < 1000000000000000000000000 := by
  have hn := slots_pos W.mem
  have hpl := pts_len W
  obtain ⟨B, hB⟩ : ∃ B : Nat, B = 200000000000000000000 := ⟨_, rfl⟩
  have hP : ∀ p ∈ ptsOf a b c, p.1.natAbs ≤ B ∧ p.2.natAbs ≤ B := by
    intro p hp
    obtain ⟨q, hq, rfl⟩ := List.mem_map.mp hp
    have h1 := W.ba q.1 (List.of_mem_zip hq).1
    have h2 := W.bb q.2.1 (List.of_mem_zip (List.of_mem_zip hq).2).1
    have h3 := W.bc q.2.2 (List.of_mem_zip (List.of_mem_zip hq).2).2
    dsimp only
    omega
  generalize ptsOf a b c = P at *
  have hC := corn_bd P (0, 0) 0 hP (by simp) (by simp)
  have hC2 : ∀ x ∈ corn (0, 0) P, x.1.natAbs ≤ 20 * B ∧ x.2.natAbs ≤ 20 * B := fun x hx => by
    have := hC x hx
    have h4 : (0 + P.length) * B ≤ 20 * B := Nat.mul_le_mul_right _ (by omega)
    omega
  obtain ⟨E, hE⟩ : ∃ E : Nat, E = 20 * B := ⟨_, rfl⟩
  rw [← hE] at hC2
  have hS := psum_bd _ hC2
  rw [corn_len] at hS
  have h5 : P.length * E ≤ 20 * E := Nat.mul_le_mul_right _ (by omega)
  intro p hp
  obtain ⟨x, hx, rfl⟩ := List.mem_map.mp hp
  have hx := hC2 x hx
  have g : ∀ y : Int, y.natAbs ≤ E → ((P.length : Int) * y).natAbs ≤ 20 * E := fun y hy => by
    rw [Int.natAbs_mul]
    exact Nat.mul_le_mul (by omega) hy
  have g1 := g _ hx.1
  have g2 := g _ hx.2
  dsimp only
  omega
theorem polyg_sm {n : Nat} {a b c : List Int} (W : Wd n a b c) : ∀ p ∈ polyg (ptsOf a b c), smP p := fun p hp => by
  have := polyg_bd W p hp
  exact ⟨sm_of (by omega), sm_of (by omega)⟩
theorem sem_norms_of : Sem 1 2 [] b_norms_of fs_norms_of := by
  rintro ds Qv hl ⟨n, a, b, c, rfl, W, q⟩
  have hn := slots_pos W.mem
  have hpl := pts_len W
  have hpg := polyg_len (ptsOf a b c)
  have hsm := polyg_sm W
  unfold b_norms_of
  walk_at "vs"
  refine ⟨n, a, b, c, rfl, W, ?_⟩
  walk_at "vs"
  refine lc_mapT (fun p => .int (nrm p)) (by rw [LN_eq]; omega) (fun p acc kk hp hacc hkk => ?_) ?_
  · walk_at "vs"
    refine ⟨p, rfl, hsm p hp, ?_⟩
    walk_at "vs"
    exact ⟨hacc, hkk⟩
  simpa [li, Function.comp_def] using q
theorem sem_squares_of : Sem 1 2 [] b_squares_of fs_squares_of := by
  rintro ds Qv hl ⟨n, a, b, c, rfl, W, q⟩
  have hn := slots_pos W.mem
  have hpl := pts_len W
  have hpg := polyg_len (ptsOf a b c)
  have hsm := polyg_sm W
  unfold b_squares_of
  walk_at "vs"
  refine ⟨n, a, b, c, rfl, W, ?_⟩
  walk_at "vs"
  refine lc_mapT (fun p => pD (mulP p p)) (by rw [LN_eq]; omega) (fun p acc kk hp hacc hkk => ?_) ?_
  · walk_at "vs"
    refine ⟨p, p, rfl, hsm p hp, hsm p hp, ?_⟩
    walk_at "vs"
    exact ⟨hacc, hkk⟩
  simpa [K76.lp, Function.comp_def] using q
theorem sem_can_reach : Sem 2 2 [] b_can_reach fs_can_reach := by
  rintro ds Qv hl ⟨n, h, rfl, hn, q⟩
  unfold b_can_reach
  walk_at "vs"
  by_cases h0 : h = 0
  · subst h0
    simpa using q
  · simp only [h0, decide_false, Bool.false_or] at q
    simp only [h0, decide_false, Bool.false_eq_true, if_false]
    exact ⟨by omega, q⟩
theorem sem_has_order : Sem 2 4 [] b_has_order fs_has_order := by
  rintro ds Qv hl ⟨f, o, rfl, ho, h1, h2, q⟩
  obtain ⟨p1, p2, p3⟩ := poly_facts o ho
  unfold b_has_order
  walk_at "vs"
  refine ⟨o, rfl, ho, ?_⟩
  walk_at "vs"
  refine ⟨f, polyT o, rfl, by omega, h1, h2, p3, fun fnd => ?_⟩
  walk_at "vs"
  refine optI_at (by decide) rfl ?_
  have hr : (remP f (polyT o)).length = (polyT o).length - 1 := by
    unfold remP
    rw [List.length_take, foldl_len _ (fun f j => ppStep_len _ _ _)]
    omega
  unfold hasO at q
  generalize remP f (polyT o) = g at *
  have fin : ∀ (r : List Int), (r.filterMap (fun x => if x = 0 then none else some (D.int x))) = (r.filter (fun x => decide (x ≠ 0))).map D.int ∧ (r.filter (fun x => decide (x ≠ 0))).isEmpty = r.all fun x => decide (x = 0) := by
    intro r
    induction r with
    | nil => exact ⟨rfl, rfl⟩
    | cons x r ih =>
      by_cases h0 : x = 0
      · simpa [List.filterMap_cons, List.filter_cons, h0] using ih
      · exact ⟨by simpa [List.filterMap_cons, List.filter_cons, h0] using ih.1, by simp [List.filter_cons, h0]⟩
  walk_at "vs"
  refine lc_fmT (L := g) (fun x => if x = 0 then none else some (.int x)) (by rw [LN_eq]; omega) (fun x acc k _ hacc hk => ?_) ?_
  · walk_at "vs"
    by_cases h0 : x = 0
    · simp only [h0, if_true, Option.toList_none, List.append_nil] at hk
      simp only [h0, decide_true, Bool.not_true, Bool.false_eq_true, if_false]
      exact hk
    · simp only [h0, if_false, Option.toList_some] at hk
      simp only [h0, decide_false, Bool.not_false, if_true]
      exact ⟨hacc, hk⟩
  · rw [(fin g).1, eqP_linil, okP_li, okP_lnil, (fin g).2]
    exact ⟨by decide, rfl, rfl, q⟩
end K75

-- U3
namespace K75
open PySem PySem.Spec L2 VL PyProof.Rows K76
theorem poly_short : ∀ n ∈ slotsL, (polyT n).length ≤ n ∧ n ∈ ordersL := by decide +kernel
theorem reach_un {n : Nat} (hn : 2 ≤ n) {h : Int} (hu : Un h) : (decide (h = 0) || !decide (h % (n : Int) = 0)) = true := by
  have e : ¬ h % (n : Int) = 0 := by
    intro z
    have hd := Int.dvd_of_emod_eq_zero z
    have h2 : (n : Int).natAbs ∣ h.natAbs := Int.natAbs_dvd_natAbs.mpr hd
    have h3 : h.natAbs = 1 := by rcases hu with rfl | rfl <;> rfl
    rw [h3, Int.natAbs_natCast] at h2
    have := Nat.le_of_dvd (by decide) h2
    omega
  simp [e]
theorem gcd_un {n : Nat} {h : Int} (hu : Un h) : n / Int.gcd h n = n := by
  have : Int.gcd h n = 1 := by
    rcases hu with rfl | rfl
    · exact Int.one_gcd
    · rw [Int.neg_gcd]; exact Int.one_gcd
  rw [this, Nat.div_one]
theorem sem_stands : Sem 2 3 [] b_stands fs_stands := by
  rintro ds Qv hl ⟨n, a, b, c, h, rfl, W, hu, q⟩
  have hn := slots_pos W.mem
  have hpl := pts_len W
  have hpg := polyg_len (ptsOf a b c)
  obtain ⟨ps, po⟩ := poly_short n W.mem
  unfold b_stands
  walk_at "vs"
  refine optI_at (by decide) rfl ?_
  try walk_at "vs"
  simp only [List.length_map, W.la]
  refine ⟨n, h, rfl, by omega, ?_⟩
  walk_at "vs"
  rw [reach_un hn.1 hu]
  simp only [if_true]
  refine ⟨n, a, b, c, rfl, W, ?_⟩
  walk_at "vs"
  refine ⟨n, h, rfl, by omega, by omega, ?_⟩
  walk_at "vs"
  rw [gcd_un hu]
  refine ⟨_, n, rfl, po, by simp; omega, by simp; omega, ?_⟩
  walk_at "vs"
  unfold stnd at q
  rw [hpl] at q
  exact q
theorem sem_beats : Sem 2 2 [] b_beats fs_beats := by
  rintro ds Qv hl ⟨n, a, b, c, h, rfl, W, hu, q⟩
  have hn := slots_pos W.mem
  have hpl := pts_len W
  have hpg := polyg_len (ptsOf a b c)
  unfold b_beats
  walk_at "vs"
  refine optI_at (by decide) rfl ?_
  try walk_at "vs"
  simp only [List.length_map, W.la]
  refine ⟨n, h, rfl, by omega, ?_⟩
  walk_at "vs"
  rw [reach_un hn.1 hu]
  simp only [if_true]
  refine ⟨n, a, b, c, rfl, W, ?_⟩
  walk_at "vs"
  have hl2 : ((polyg (ptsOf a b c)).map fun p => mulP p p).length = n := by simp [hpg, hpl]
  have ho := ordOf_pos W.mem
  refine ⟨_, h, rfl, by rw [hl2]; exact W.mem, ?_⟩
  walk_at "vs"
  refine ⟨_, _, rfl, ?_, ?_⟩
  · have : (redO (ordOf ((polyg (ptsOf a b c)).map fun p => mulP p p).length) (waveRow ((polyg (ptsOf a b c)).map fun p => mulP p p) h)).length ≤ 1000 := by
      unfold redO remP
      rw [List.length_take, foldl_len _ (fun f j => ppStep_len _ _ _)]
      have : (waveRow ((polyg (ptsOf a b c)).map fun p => mulP p p) h).length = ordOf n := by
        unfold waveRow
        rw [foldl_len _ (fun f a => by simp [addAt])]
        simp [hpg, hpl]
      omega
    exact this
  walk_at "vs"
  unfold bts hasW at q
  exact q
theorem sem_is_beating_one_sided : Sem 1 1 [] b_is_beating_one_sided fs_is_beating_one_sided := by
  rintro ds Qv hl ⟨n, a, b, c, rfl, W, q⟩
  unfold b_is_beating_one_sided
  walk_at "vs"
  refine ⟨n, a, b, c, 1, rfl, W, .inl rfl, ?_⟩
  walk_at "vs"
  cases z : bts (ptsOf a b c) 1
  · rw [z, Bool.false_or] at q
    simp only [Bool.false_eq_true, if_false]
    refine ⟨n, a, b, c, -1, rfl, W, .inr rfl, ?_⟩
    walk_at "vs"
    exact q
  · rw [z, Bool.true_or] at q
    simp only [if_true]
    exact q
theorem seen_sm {n : Nat} {a b c : List Int} (W : Wd n a b c) (m : Nat) : ∀ p ∈ polyg (ptsOf a b c), sm (seen m p) := by
  intro p hp
  have h := polyg_bd W p hp
  have h2 := six_bd (B := 2000000000000000000000000) (m / 2 % 6) p (by omega) (by omega) (by omega)
  apply sm_of
  unfold seen
  split <;> omega
theorem sem_pulls_at : Sem 2 4 [] b_pulls_at fs_pulls_at := by
  rintro ds Qv hl ⟨n, a, b, c, m, rfl, W, hm, q⟩
  have hn := slots_pos W.mem
  have hpl := pts_len W
  have hpg := polyg_len (ptsOf a b c)
  have hs := seen_sm W m
  obtain ⟨ps, po⟩ := poly_short n W.mem
  unfold b_pulls_at
  refine seq_of (fun Γ => Γ = [.sh (wD a b c), .sh (.int m), .ac ((sqF (ptsOf a b c) m).map D.int), .un]) (fun k hk => ?_) ?_
  · walk_at "vs"
    refine ⟨n, a, b, c, m, rfl, W, hm, ?_⟩
    walk_at "vs"
    rw [List.map_map]
    refine lc_mapT (fun p => .int (seen m p * seen m p)) (by rw [LN_eq]; omega) (fun p acc kk hp hacc hkk => ?_) ?_
    · walk_at "vs"
      exact ⟨cm_s (hs p hp) (hs p hp), hacc, hkk⟩
    · refine hk _ ?_
      unfold sqF
      rw [List.map_map]
      rfl
  rintro Γ rfl
  have hl2 : (sqF (ptsOf a b c) m).length = n := by simp [sqF, hpg, hpl]
  walk_at "vs"
  simp only [List.length_map, hl2]
  refine ⟨_, n, rfl, po, by omega, by omega, ?_⟩
  walk_at "vs"
  unfold pul at q
  rw [hpl] at q
  exact q
theorem sem_has_standing : Sem 2 2 [] b_has_standing fs_has_standing := by
  rintro ds Qv hl ⟨n, a, b, c, h, rfl, W, hu, q⟩
  unfold b_has_standing
  walk_at "vs"
  refine ⟨n, a, b, c, rfl, W, ?_⟩
  walk_at "vs"
  refine ⟨h, rfl, ?_⟩
  walk_at "vs"
  refine ⟨n, a, b, c, rfl, W, ?_⟩
  walk_at "vs"
  refine ⟨n, a, b, c, h, rfl, W, hu, ?_⟩
  walk_at "vs"
  exact q
theorem sem_has_beating : Sem 2 2 [] b_has_beating fs_has_beating := by
  rintro ds Qv hl ⟨n, a, b, c, h, rfl, W, hu, q⟩
  unfold b_has_beating
  walk_at "vs"
  refine ⟨n, a, b, c, rfl, W, ?_⟩
  walk_at "vs"
  refine ⟨h, rfl, ?_⟩
  walk_at "vs"
  refine ⟨n, a, b, c, rfl, W, ?_⟩
  walk_at "vs"
  refine ⟨n, a, b, c, h, rfl, W, hu, ?_⟩
  walk_at "vs"
  exact q
theorem sem_pulls : Sem 1 1 [] b_pulls fs_pulls := by
  rintro ds Qv hl ⟨n, a, b, c, rfl, W, q⟩
  unfold b_pulls
  walk_at "vs"
  refine ⟨n, a, b, c, rfl, W, ?_⟩
  walk_at "vs"
  refine ⟨n, a, b, c, 1, rfl, W, .inl rfl, ?_⟩
  walk_at "vs"
  refine ⟨n, a, b, c, rfl, W, ?_⟩
  walk_at "vs"
  exact ⟨by decide, q⟩
theorem sem_is_pulled_at : Sem 2 2 [] b_is_pulled_at fs_is_pulled_at := by
  rintro ds Qv hl ⟨n, a, b, c, m, rfl, W, hm, q⟩
  unfold b_is_pulled_at
  walk_at "vs"
  refine ⟨n, a, b, c, rfl, W, ?_⟩
  walk_at "vs"
  refine ⟨m, rfl, hm, ?_⟩
  walk_at "vs"
  refine ⟨n, a, b, c, rfl, W, ?_⟩
  walk_at "vs"
  refine ⟨n, a, b, c, m, rfl, W, hm, ?_⟩
  walk_at "vs"
  exact q
theorem sem_law_urn : Sem 2 6 [] b_law_urn fs_law_urn := by
  rintro ds Qv hl ⟨ns, t, rfl, ht, q⟩
  unfold b_law_urn
  refine seq_of (fun Γ => ∃ own : Int, Γ = [.sh (.fz (ns.map D.int)), .sh (.int t), .sh (.int own), .un, .un, .un]) (fun k hk => ?_) ?_
  · walk_at "vs"
    simp only [List.length_map]
    by_cases h : (t : Int) < (ns.length : Int)
    · simp only [h, decide_true, if_true]
      refine optI_int (by omega) h ?_
      walk_at "vs"
      exact hk _ ⟨_, rfl⟩
    · simp only [h, decide_false, Bool.false_eq_true, if_false]
      exact ⟨cm_l (by decide), hk _ ⟨_, rfl⟩⟩
  · rintro Γ ⟨own, rfl⟩
    walk_at "vs"
    refine ⟨cm_l (by decide), ?_⟩
    rw [cutL_map]
    refine loop_invT (fun i Γ => ∃ (st : Int) (o4 : Option D), Γ = [.sh (.fz (ns.map D.int)), .sh (.int t), .sh (.int own), .sh (.int st), oS o4, .un]) ⟨_, none, rfl⟩ ?_ ?_
    · rintro i x Γ k e ⟨st, o4, rfl⟩ hk
      walk_at "vs"
      exact ⟨cm_r (by decide), by decide, by decide, hk _ ⟨_, some (.int x), rfl⟩⟩
    · rintro Γ ⟨st, o4, rfl⟩
      walk_at "vs"
      refine ⟨cm_r (by decide), by decide, cm_r (by decide), by decide, ?_⟩
      have hp : CPow 10 17 := ⟨by decide, by decide, by decide⟩
      by_cases h : own < 0
      · simp only [h, decide_true, if_true]
        exact ⟨by decide, q _ ⟨_, _, _, rfl⟩⟩
      · simp only [h, decide_false, Bool.false_eq_true, if_false]
        refine ⟨hp, ?_⟩
        by_cases h2 : (10 : Int) ^ (17 : Int).toNat ≤ own
        · simp only [h2, decide_true, if_true]
          exact ⟨by decide, q _ ⟨_, _, _, rfl⟩⟩
        · simp only [h2, decide_false, Bool.false_eq_true, if_false]
          exact ⟨by decide, q _ ⟨_, _, _, rfl⟩⟩
theorem sem_law_norm : Sem 1 1 [] b_law_norm fs_law_norm := sem_norm_in
theorem sem_law_times : Sem 2 2 [] b_law_times fs_law_times := by
  rintro ds Qv hl ⟨p, r, rfl, ⟨p1, p2⟩, ⟨r1, r2⟩, q⟩
  unfold b_law_times
  walk_at "vs"
  refine optI_at (by decide) rfl ?_
  refine optI_at (by decide) rfl ?_
  try walk_at "vs"
  refine ⟨cm_s p1 r1, ?_⟩
  refine optI_at (by decide) rfl ?_
  refine optI_at (by decide) rfl ?_
  try walk_at "vs"
  refine ⟨cm_s p2 r2, ?_⟩
  refine optI_at (by decide) rfl ?_
  refine optI_at (by decide) rfl ?_
  try walk_at "vs"
  refine ⟨cm_s p1 r2, ?_⟩
  refine optI_at (by decide) rfl ?_
  refine optI_at (by decide) rfl ?_
  try walk_at "vs"
  refine ⟨cm_s p2 r1, ?_⟩
  refine optI_at (by decide) rfl ?_
  refine optI_at (by decide) rfl ?_
  try walk_at "vs"
  exact ⟨cm_s p2 r2, by decide, q⟩
theorem sem_law_polygon : Sem 1 8 [] b_law_polygon fs_law_polygon := by
  rintro ds Qv hl ⟨P, rfl, hm, q⟩
  have hn := slots_pos hm
  unfold b_law_polygon
  unfold polyg at q
  have hcl := corn_len (0, 0) P
  refine seq_of (fun Γ => Γ = [.sh (K76.lp P), .un, .sh (.int P.length), .ac [], .sh (pD (0, 0)), .un, .un, .un]) (fun k hk => ?_) ?_
  · walk_at "vs"
    simp only [List.length_map]
    first
      | exact ⟨by decide, by decide, hk _ rfl⟩
      | exact ⟨by decide, hk _ rfl⟩
  rintro Γ rfl
  refine seq_of (fun Γ => ∃ o1 o4, Γ = [.sh (K76.lp P), oS o1, .sh (.int P.length), .ac ((corn (0, 0) P).map pD), oS o4, .un, .un, .un]) (fun k hk => ?_) ?_
  · walk_at "vs"
    refine loop_invT (fun i Γ => ∃ o1, Γ = [.sh (K76.lp P), oS o1, .sh (.int P.length), .ac (((corn (0, 0) P).take i).map pD), .sh (pD (psum (P.take i))), .un, .un, .un]) ⟨none, rfl⟩ ?_ ?_
    · rintro i p Γ kk e ⟨o1, rfl⟩ hkk
      have hi : i < P.length := (List.getElem?_eq_some_iff.mp e).1
      have e1 := corn_take P (0, 0) i p e
      have e2 := psum_take e
      walk_at "vs"
      refine ⟨by simp [LN_eq, corn_len]; omega, ?_⟩
      refine optI_at (by decide) rfl ?_
      refine optI_at (by decide) rfl ?_
      try walk_at "vs"
      refine optI_at (by decide) rfl ?_
      refine optI_at (by decide) rfl ?_
      try walk_at "vs"
      refine ⟨by decide, hkk _ ⟨some (pD p), ?_⟩⟩
      rw [e1, e2, List.map_append]
      simp [oS]
    · rintro Γ ⟨o1, rfl⟩
      have : (corn (0, 0) P).take P.length = corn (0, 0) P := List.take_of_length_le (by rw [corn_len]; omega)
      rw [this]
      exact hk _ ⟨o1, some _, rfl⟩
  rintro Γ ⟨o1, o4, rfl⟩
  generalize corn (0, 0) P = C at *
  have hL : C.length < LN := by rw [LN_eq]; omega
  walk_at "vs"
  refine lc_mapT (fun p => .int p.1) hL (fun p acc kk _ hacc hkk => ?_) ?_
  · walk_at "vs"
    refine optI_at (by decide) rfl ?_
    first
      | exact ⟨hacc, hkk⟩
      | exact ⟨hacc, rfl, hkk⟩
  rw [m1]
  walk_at "vs"
  refine lc_mapT (fun p => .int p.2) hL (fun p acc kk _ hacc hkk => ?_) ?_
  · walk_at "vs"
    refine optI_at (by decide) rfl ?_
    first
      | exact ⟨hacc, hkk⟩
      | exact ⟨hacc, rfl, hkk⟩
  rw [m2]
  walk_at "vs"
  refine lc_mapT (fun p => pD ((P.length : Int) * p.1 - (psum C).1, (P.length : Int) * p.2 - (psum C).2)) hL (fun p acc kk _ hacc hkk => ?_) ?_
  · walk_at "vs"
    refine optI_at (by decide) rfl ?_
    try walk_at "vs"
    refine ⟨cm_l (by omega), ?_⟩
    refine optI_at (by decide) rfl ?_
    try walk_at "vs"
    exact ⟨cm_l (by omega), by decide, hacc, hkk⟩
  simpa [K76.lp, Function.comp_def] using q
end K75

-- Q1
/-! Q1: the plain law of k75. -/
namespace K75
open K76 GR
theorem chk75 : ∀ n ∈ slotsL, n ∈ ordersL ∧ ordOf n ∈ ordersL ∧ ordOf n % 3 = 0 ∧ 3 ∈ psOf (ordOf n) ∧ (n % 3 ≠ 0 → ordOf n = 3 * n ∧ (psOf (ordOf n)).Perm (3 :: psOf n)) ∧ (n % 3 = 0 → ordOf n = n) ∧ (∀ p ∈ psOf n, n % p = 0 ∧ 0 < p) := by decide +kernel
/-- a row, at the order of the waves -/
theorem row_iff {n N : Nat} [NeZero N] (hm : n ∈ slotsL) (hN : N = ordOf n) {f : List Int} (hf : f.length = n) : lawN f = true ↔ Pr N (psOf N) * Su (Xp (N / n)) (fun a => mo a 0) f = (0 : R N) := by
  obtain ⟨h1, h2, h3, h4, h5, h6, h7⟩ := chk75 n hm
  have hn := slots_pos hm
  rw [lawN_eq (by rw [hf]; exact h1), hf]
  by_cases h : n % 3 = 0
  · have e : N = n := by rw [hN, h6 h]
    subst e
    obtain ⟨_, _, lt⟩ := good_of (chk_all _ h1)
    have e1 : N / N = 1 := Nat.div_self (by omega)
    rw [e1, Su_ofL, ← ofL_lawF (fun p hp => (lt p hp).2) hf, ofL_nought (by rw [lawF_len]; omega)]
    rfl
  · obtain ⟨e, hp⟩ := h5 h
    have e2 : N = 3 * n := by rw [hN, e]
    obtain ⟨_, _, lt⟩ := good_of (N := N) (by rw [hN]; exact chk_all _ h2)
    rw [← hN] at hp
    have lt2 : ∀ p ∈ (3 :: psOf n), N / p < N := fun p hp2 => (lt p (by rw [← hN]; exact hp.mem_iff.mpr hp2)).2
    have e1 : N / n = 3 := by rw [e2, Nat.mul_div_cancel _ (by omega)]
    rw [e1, ← ofL_wide3, Pr_perm hp, ← ofL_lawF lt2 (by rw [wide3_len, hf, e2]), ofL_nought (by rw [lawF_len, wide3_len]; omega)]
    have e3 : lawF N (3 :: psOf n) (wide3 f) = lessT n (wide3 (lawF n (psOf n) f)) := by
      rw [e2]
      show lessT (3 * n / 3) (lawF (3 * n) (psOf n) (wide3 f)) = _
      rw [wide3_lawF f _ h7, Nat.mul_div_cancel_left _ (by omega)]
    rw [e3]
    haveI : NeZero n := ⟨by omega⟩
    have e4 := wide3_zs (n := n) (g := lawF n (psOf n) f) (by rw [lawF_len, hf]) h
    rw [← e4]
    rfl
theorem addAt_ofL {N : Nat} [NeZero N] {f : List Int} {i : Nat} (v : Int) (hf : f.length = N) (hi : i < N) : (ofL (addAt f i v) : R N) = ofL f + mo v 0 * Xp i := by
  apply R.ext
  intro k
  have hk := k.isLt
  rw [add_c, ofL_c _ (by simp [addAt]; omega), ofL_c _ (by omega), mo_mul]
  have e0 : k - 0 = k := by grind
  rw [e0]
  unfold Xp addAt
  rw [mo_c, GR.getD_set f i k.val _ (by omega)]
  have hki : k = Fin.ofNat N i ↔ k.val = i := by
    constructor
    · intro h
      rw [h]
      exact Nat.mod_eq_of_lt hi
    · intro h
      apply Fin.ext
      rw [h]
      exact (Nat.mod_eq_of_lt hi).symm
  by_cases h : k.val = i
  · rw [if_pos h, if_pos (hki.mpr h), h]; omega
  · rw [if_neg h, if_neg (fun z => h (hki.mp z))]; omega
/-- a point as a sum of powers -/
def pt {N : Nat} [NeZero N] (p : Int × Int) : R N := mo p.1 0 + Xp (N / 3) * mo p.2 0
theorem wrow_ofL {n N : Nat} [NeZero N] (hn : 2 ≤ n) (hNn : N / n * n = N) (hN3 : N % 3 = 0) (h : Nat) : ∀ (P : List (Int × Int)) (k : Nat) (f : List Int), f.length = N →
    (ofL ((P.zipIdx k).foldl (fun f q => addAt (addAt f (h * q.2 % n * (N / n)) q.1.1) ((h * q.2 % n * (N / n) + N / 3) % N) q.1.2) f) : R N) = ofL f + pX (Xp (h * (N / n))) k * Su (Xp (h * (N / n))) pt P
  | [], k, f, hf => by
    show ofL f = ofL f + _ * 0
    grind
  | p :: P, k, f, hf => by
    have hNp : 0 < N := Nat.pos_of_ne_zero (NeZero.ne N)
    rw [List.zipIdx_cons, List.foldl_cons]
    have hlt : h * k % n * (N / n) < N := by
      have h1 : h * k % n < n := Nat.mod_lt _ (by omega)
      have h2 : h * k % n * (N / n) < n * (N / n) := Nat.mul_lt_mul_of_pos_right h1 (Nat.pos_of_ne_zero fun z => by rw [z] at hNn; omega)
      rw [Nat.mul_comm n] at h2
      omega
    have hl : (addAt f (h * k % n * (N / n)) p.1).length = N := by simp [addAt, hf]
    rw [wrow_ofL hn hNn hN3 h P (k + 1) _ (by simp [addAt, hf])]
    dsimp only
    rw [addAt_ofL _ hl (Nat.mod_lt _ hNp), addAt_ofL _ hf hlt, Xp_mod, ← Xp_add]
    have e1 : (Xp (h * k % n * (N / n)) : R N) = pX (Xp (h * (N / n))) k := by
      rw [← Xp_mul, ← Xp_mod (h * (N / n) * k)]
      have : h * (N / n) * k % N = h * k % n * (N / n) := by
        have e : h * (N / n) * k = h * k * (N / n) := Nat.mul_right_comm _ _ _
        rw [e]
        generalize N / n = m at *
        rw [← hNn, Nat.mul_comm m n, Nat.mul_mod_mul_right]
      rw [this]
    rw [e1]
    show _ = ofL f + pX (Xp (h * (N / n))) k * (pt p + Xp (h * (N / n)) * Su (Xp (h * (N / n))) pt P)
    have e2 : (pX (Xp (h * (N / n))) (k + 1) : R N) = Xp (h * (N / n)) * pX (Xp (h * (N / n))) k := rfl
    rw [e2]
    unfold pt
    grind
/-- the row of a wave -/
theorem wave_iff {n N : Nat} [NeZero N] (hm : n ∈ slotsL) (hN : N = ordOf n) {P : List (Int × Int)} (hP : P.length = n) (h : Nat) : lawN (lawRow P h) = true ↔ Pr N (psOf N) * Su (Xp (h * (N / n))) pt P = (0 : R N) := by
  obtain ⟨h1, h2, h3, h4, h5, h6, h7⟩ := chk75 n hm
  have hn := slots_pos hm
  obtain ⟨e, _, _⟩ := ord_fact n hm
  have hl := lawRow_len P h
  rw [hP, ← hN] at hl
  obtain ⟨_, _, lt⟩ := good_of (N := N) (by rw [hN]; exact chk_all _ h2)
  rw [lawN_eq (by rw [hl, hN]; exact h2), hl]
  have lt' : ∀ p ∈ psOf N, N / p < N := fun p hp => (lt p (by rw [← hN]; exact hp)).2
  have key := ofL_lawF (N := N) lt' hl
  have e2 : (ofL (lawRow P h) : R N) = Su (Xp (h * (N / n))) pt P := by
    have e3 : N / n * n = N := by rw [hN]; exact e
    have := wrow_ofL (N := N) hn.1 e3 (by rw [hN]; exact h3) h P 0 (List.replicate N 0) (by simp)
    have e4 : lawRow P h = (P.zipIdx 0).foldl (fun f q => addAt (addAt f (h * q.2 % n * (N / n)) q.1.1) ((h * q.2 % n * (N / n) + N / 3) % N) q.1.2) (List.replicate N 0) := by
      unfold lawRow lawAng
      rw [hP, ← hN]
    rw [e4, this]
    have e5 : (ofL (List.replicate N (0 : Int)) : R N) = 0 := by
      rw [ofL_nought (by simp)]
      simp
    rw [e5]
    show 0 + 1 * _ = _
    grind
  rw [← e2, ← key, ofL_nought (by rw [lawF_len, hl]; exact Nat.le_refl _)]
  rfl
/-! ### the three sums -/
def A1 {N : Nat} [NeZero N] (p : Int × Int) : R N := mo p.1 0
def B1 {N : Nat} [NeZero N] (p : Int × Int) : R N := mo p.2 0
/-- the square, its size twice over, the square turned over -/
def sq1 {N : Nat} [NeZero N] (p : Int × Int) : R N := (A1 p + Xp (N / 3) * B1 p) * (A1 p + Xp (N / 3) * B1 p)
def nn1 {N : Nat} [NeZero N] (p : Int × Int) : R N := A1 p * A1 p - A1 p * B1 p + B1 p * B1 p
def sb1 {N : Nat} [NeZero N] (p : Int × Int) : R N := (A1 p + Xp (N / 3) * Xp (N / 3) * B1 p) * (A1 p + Xp (N / 3) * Xp (N / 3) * B1 p)
section
variable {N : Nat} [NeZero N]
theorem mo_add (v w : Int) : (mo (v + w) 0 : R N) = mo v 0 + mo w 0 := R.ext fun i => by
  rw [add_c, mo_c, mo_c, mo_c]
  split <;> omega
theorem mo_sub (v w : Int) : (mo (v - w) 0 : R N) = mo v 0 - mo w 0 := R.ext fun i => by
  rw [sub_c, mo_c, mo_c, mo_c]
  split <;> omega
theorem mo_mul0 (v w : Int) : (mo (v * w) 0 : R N) = mo v 0 * mo w 0 := by
  rw [mo_mo]
  congr 1
theorem mo_neg (v : Int) : (mo (-v) 0 : R N) = -mo v 0 := R.ext fun i => by
  rw [neg_c, mo_c, mo_c]
  split <;> omega
theorem mo_two : (mo 2 0 : R N) = 2 := rfl
theorem mo_three : (mo 3 0 : R N) = 3 := rfl
theorem mo_one : (mo 1 0 : R N) = 1 := rfl
theorem mo_zero : (mo 0 0 : R N) = 0 := rfl
/-- the roots of one of order six, by 1 and a third of the way round -/
def u6 (m : Nat) : R N := match m with
  | 0 => 1
  | 1 => -(Xp (N / 3) * Xp (N / 3))
  | 2 => Xp (N / 3)
  | 3 => -1
  | 4 => Xp (N / 3) * Xp (N / 3)
  | _ => -Xp (N / 3)
def c6 (m : Nat) : R N := if m % 2 = 0 then 1 else 3
theorem seen_sq {P : R N} (hP : P * (1 + Xp (N / 3) + Xp (N / 3) * Xp (N / 3)) = 0) (hw : (Xp (N / 3) : R N) * (Xp (N / 3) * Xp (N / 3)) = 1) (m : Nat) (hm : m < 6) (p : Int × Int) :
    P * (c6 m * mo (seen m p * seen m p) 0) = P * (u6 m * sq1 p + 2 * nn1 p + u6 ((6 - m) % 6) * sb1 p) := by
  rw [mo_mul0]
  unfold sq1 nn1 sb1
  generalize hw3 : (Xp (N / 3) : R N) = w at *
  have ha : (mo p.1 0 : R N) = A1 p := rfl
  have hb : (mo p.2 0 : R N) = B1 p := rfl
  match m, hm with
  | 0, _ =>
    rw [show seen 0 p = 2 * p.1 - p.2 from rfl]
    simp only [c6, u6, hw3, mo_sub, mo_mul0, mo_two, ha, hb]
    simp only [show 0 % 2 = 0 from rfl, if_true, if_false, reduceIte, Nat.one_ne_zero, Nat.reduceMod, Nat.reduceSub, Nat.reduceEqDiff, reduceCtorEq]
    grind
  | 1, _ =>
    rw [show seen 1 p = p.1 - p.2 from rfl]
    simp only [c6, u6, hw3, mo_sub, mo_mul0, mo_two, ha, hb]
    simp only [show 1 % 2 = 1 from rfl, if_true, if_false, reduceIte, Nat.one_ne_zero, Nat.reduceMod, Nat.reduceSub, Nat.reduceEqDiff, reduceCtorEq]
    grind
  | 2, _ =>
    rw [show seen 2 p = 2 * (p.1 - p.2) - p.1 from rfl]
    simp only [c6, u6, hw3, mo_sub, mo_mul0, mo_two, ha, hb]
    simp only [show 2 % 2 = 0 from rfl, if_true, if_false, reduceIte, Nat.one_ne_zero, Nat.reduceMod, Nat.reduceSub, Nat.reduceEqDiff, reduceCtorEq]
    grind
  | 3, _ =>
    rw [show seen 3 p = (p.1 - p.2) - p.1 from rfl]
    simp only [c6, u6, hw3, mo_sub, mo_mul0, mo_two, ha, hb]
    simp only [show 3 % 2 = 1 from rfl, if_true, if_false, reduceIte, Nat.one_ne_zero, Nat.reduceMod, Nat.reduceSub, Nat.reduceEqDiff, reduceCtorEq]
    grind
  | 4, _ =>
    rw [show seen 4 p = 2 * ((p.1 - p.2) - p.1) - (p.1 - p.2) from rfl]
    simp only [c6, u6, hw3, mo_sub, mo_mul0, mo_two, ha, hb]
    simp only [show 4 % 2 = 0 from rfl, if_true, if_false, reduceIte, Nat.one_ne_zero, Nat.reduceMod, Nat.reduceSub, Nat.reduceEqDiff, reduceCtorEq]
    grind
  | 5, _ =>
    rw [show seen 5 p = ((p.1 - p.2) - p.1) - (p.1 - p.2) from rfl]
    simp only [c6, u6, hw3, mo_sub, mo_mul0, mo_two, ha, hb]
    simp only [show 5 % 2 = 1 from rfl, if_true, if_false, reduceIte, Nat.one_ne_zero, Nat.reduceMod, Nat.reduceSub, Nat.reduceEqDiff, reduceCtorEq]
    grind
theorem u6_pair {P : R N} (hP : P * (1 + Xp (N / 3) + Xp (N / 3) * Xp (N / 3)) = 0) (hw : (Xp (N / 3) : R N) * (Xp (N / 3) * Xp (N / 3)) = 1) {i j : Nat} (hi : i < j) (hj : j < 6) :
    ∃ d : Int, d ≠ 0 ∧ ∃ c : R N, P * ((u6 i - u6 j) * c) = P * mo d 0 := by
  generalize hw3 : (Xp (N / 3) : R N) = w at *
  have h4 : (mo 4 0 : R N) = 4 := rfl
  refine ⟨if j - i = 1 ∨ j - i = 5 then 1 else if j - i = 3 then 4 else 3, by split <;> (try split) <;> decide, u6 ((6 - i) % 6) - u6 ((6 - j) % 6), ?_⟩
  match i, j, hi, hj with
  | 0, 1, _, _ => simp only [u6, hw3, Nat.reduceSub, Nat.reduceMod, reduceIte, Nat.reduceEqDiff, true_or, or_true, or_self, mo_one, mo_three, h4]; grind
  | 0, 2, _, _ => simp only [u6, hw3, Nat.reduceSub, Nat.reduceMod, reduceIte, Nat.reduceEqDiff, true_or, or_true, or_self, mo_one, mo_three, h4]; grind
  | 0, 3, _, _ => simp only [u6, hw3, Nat.reduceSub, Nat.reduceMod, reduceIte, Nat.reduceEqDiff, true_or, or_true, or_self, mo_one, mo_three, h4]; grind
  | 0, 4, _, _ => simp only [u6, hw3, Nat.reduceSub, Nat.reduceMod, reduceIte, Nat.reduceEqDiff, true_or, or_true, or_self, mo_one, mo_three, h4]; grind
  | 0, 5, _, _ => simp only [u6, hw3, Nat.reduceSub, Nat.reduceMod, reduceIte, Nat.reduceEqDiff, true_or, or_true, or_self, mo_one, mo_three, h4]; grind
  | 1, 2, _, _ => simp only [u6, hw3, Nat.reduceSub, Nat.reduceMod, reduceIte, Nat.reduceEqDiff, true_or, or_true, or_self, mo_one, mo_three, h4]; grind
  | 1, 3, _, _ => simp only [u6, hw3, Nat.reduceSub, Nat.reduceMod, reduceIte, Nat.reduceEqDiff, true_or, or_true, or_self, mo_one, mo_three, h4]; grind
  | 1, 4, _, _ => simp only [u6, hw3, Nat.reduceSub, Nat.reduceMod, reduceIte, Nat.reduceEqDiff, true_or, or_true, or_self, mo_one, mo_three, h4]; grind
  | 1, 5, _, _ => simp only [u6, hw3, Nat.reduceSub, Nat.reduceMod, reduceIte, Nat.reduceEqDiff, true_or, or_true, or_self, mo_one, mo_three, h4]; grind
  | 2, 3, _, _ => simp only [u6, hw3, Nat.reduceSub, Nat.reduceMod, reduceIte, Nat.reduceEqDiff, true_or, or_true, or_self, mo_one, mo_three, h4]; grind
  | 2, 4, _, _ => simp only [u6, hw3, Nat.reduceSub, Nat.reduceMod, reduceIte, Nat.reduceEqDiff, true_or, or_true, or_self, mo_one, mo_three, h4]; grind
  | 2, 5, _, _ => simp only [u6, hw3, Nat.reduceSub, Nat.reduceMod, reduceIte, Nat.reduceEqDiff, true_or, or_true, or_self, mo_one, mo_three, h4]; grind
  | 3, 4, _, _ => simp only [u6, hw3, Nat.reduceSub, Nat.reduceMod, reduceIte, Nat.reduceEqDiff, true_or, or_true, or_self, mo_one, mo_three, h4]; grind
  | 3, 5, _, _ => simp only [u6, hw3, Nat.reduceSub, Nat.reduceMod, reduceIte, Nat.reduceEqDiff, true_or, or_true, or_self, mo_one, mo_three, h4]; grind
  | i + 5, j, h1, h2 => exact absurd h1 (by omega)
  | 4, 5, _, _ => simp only [u6, hw3, Nat.reduceSub, Nat.reduceMod, reduceIte, Nat.reduceEqDiff, true_or, or_true, or_self, mo_one, mo_three, h4]; grind
theorem u6_inv (hw : (Xp (N / 3) : R N) * (Xp (N / 3) * Xp (N / 3)) = 1) (i : Nat) (hi : i < 6) : (u6 i : R N) * u6 ((6 - i) % 6) = 1 := by
  generalize hw3 : (Xp (N / 3) : R N) = w at *
  match i, hi with
  | 0, _ => simp only [u6, hw3, Nat.reduceSub, Nat.reduceMod]; grind
  | 1, _ => simp only [u6, hw3, Nat.reduceSub, Nat.reduceMod]; grind
  | 2, _ => simp only [u6, hw3, Nat.reduceSub, Nat.reduceMod]; grind
  | 3, _ => simp only [u6, hw3, Nat.reduceSub, Nat.reduceMod]; grind
  | 4, _ => simp only [u6, hw3, Nat.reduceSub, Nat.reduceMod]; grind
  | 5, _ => simp only [u6, hw3, Nat.reduceSub, Nat.reduceMod]; grind
theorem cut {P c g : R N} {d : Int} (hd : d ≠ 0) {t : R N} (e : P * (t * c) = P * mo d 0) (h : P * (t * g) = 0) : P * g = 0 := by
  refine tors hd (g := P * g) ?_
  have h1 : mo d 0 * (P * g) = (P * mo d 0) * g := by grind
  have h2 : P * (t * c) * g = c * (P * (t * g)) := by grind
  rw [h1, ← e, h2, h]
  grind
/-- three of six: then none is there -/
theorem vander {P : R N} (hP : P * (1 + Xp (N / 3) + Xp (N / 3) * Xp (N / 3)) = 0) (hw : (Xp (N / 3) : R N) * (Xp (N / 3) * Xp (N / 3)) = 1) {Z B V : R N} {i j k : Nat} (hij : i < j) (hjk : j < k) (hk : k < 6)
    (h1 : P * (u6 i * Z + 2 * B + u6 ((6 - i) % 6) * V) = 0) (h2 : P * (u6 j * Z + 2 * B + u6 ((6 - j) % 6) * V) = 0) (h3 : P * (u6 k * Z + 2 * B + u6 ((6 - k) % 6) * V) = 0) : P * Z = 0 ∧ P * B = 0 ∧ P * V = 0 := by
  have i1 := u6_inv (N := N) hw i (by omega)
  have i2 := u6_inv (N := N) hw j (by omega)
  have i3 := u6_inv (N := N) hw k (by omega)
  obtain ⟨d1, hd1, c1, e1⟩ := u6_pair hP hw hij (by omega)
  obtain ⟨d2, hd2, c2, e2⟩ := u6_pair hP hw (Nat.lt_trans hij hjk) hk
  obtain ⟨d3, hd3, c3, e3⟩ := u6_pair hP hw hjk hk
  generalize (u6 i : R N) = a at *
  generalize (u6 j : R N) = b at *
  generalize (u6 k : R N) = c at *
  generalize (u6 ((6 - i) % 6) : R N) = a' at *
  generalize (u6 ((6 - j) % 6) : R N) = b' at *
  generalize (u6 ((6 - k) % 6) : R N) = c' at *
  have q1 : P * ((a - b) * ((a + b) * Z + 2 * B)) = 0 := by
    have x1 : a * (P * (a * Z + 2 * B + a' * V)) = P * (a * a * Z + 2 * a * B + (a * a') * V) := by grind
    have x2 : b * (P * (b * Z + 2 * B + b' * V)) = P * (b * b * Z + 2 * b * B + (b * b') * V) := by grind
    rw [h1, i1] at x1
    rw [h2, i2] at x2
    have x3 : P * ((a - b) * ((a + b) * Z + 2 * B)) = P * (a * a * Z + 2 * a * B + 1 * V) - P * (b * b * Z + 2 * b * B + 1 * V) := by grind
    rw [x3, ← x1, ← x2]
    grind
  have q2 : P * ((a - c) * ((a + c) * Z + 2 * B)) = 0 := by
    have x1 : a * (P * (a * Z + 2 * B + a' * V)) = P * (a * a * Z + 2 * a * B + (a * a') * V) := by grind
    have x2 : c * (P * (c * Z + 2 * B + c' * V)) = P * (c * c * Z + 2 * c * B + (c * c') * V) := by grind
    rw [h1, i1] at x1
    rw [h3, i3] at x2
    have x3 : P * ((a - c) * ((a + c) * Z + 2 * B)) = P * (a * a * Z + 2 * a * B + 1 * V) - P * (c * c * Z + 2 * c * B + 1 * V) := by grind
    rw [x3, ← x1, ← x2]
    grind
  have r1 := cut hd1 e1 q1
  have r2 := cut hd2 e2 q2
  have r3 : P * ((b - c) * Z) = 0 := by
    have : P * ((b - c) * Z) = P * ((a + b) * Z + 2 * B) - P * ((a + c) * Z + 2 * B) := by grind
    rw [this, r1, r2]
    grind
  have z1 := cut hd3 e3 r3
  have z2 : P * B = 0 := by
    refine tors (v := 2) (by decide) ?_
    have : (mo 2 0 : R N) = 2 := rfl
    rw [this]
    grind
  refine ⟨z1, z2, ?_⟩
  have : P * V = a * (P * (a * Z + 2 * B + a' * V)) - a * a * (P * Z) - 2 * a * (P * B) + (1 - a * a') * (P * V) := by grind
  rw [this, h1, z1, z2, i1]
  grind
end
end K75

-- Q2
/-! Q2: pulls at moments and standing and beating forces. -/
namespace K75
open K76 GR
section
variable {n N : Nat} [NeZero N]
theorem pN_third (hm : n ∈ slotsL) (hN : N = ordOf n) : (Pr N (psOf N) : R N) * (1 + Xp (N / 3) + Xp (N / 3) * Xp (N / 3)) = 0 := by
  obtain ⟨h1, h2, h3, h4, _⟩ := chk75 n hm
  exact third (by rw [hN]; exact h3) (by rw [hN]; exact h4)
theorem w_three (hm : n ∈ slotsL) (hN : N = ordOf n) : (Xp (N / 3) : R N) * (Xp (N / 3) * Xp (N / 3)) = 1 := by
  obtain ⟨h1, h2, h3, h4, _⟩ := chk75 n hm
  rw [Xp_add, Xp_add]
  apply Xp_self
  have : N / 3 + (N / 3 + N / 3) = N := by rw [← hN] at h3; omega
  rw [this]; exact Nat.mod_self N
theorem fld_iff (hm : n ∈ slotsL) (hN : N = ordOf n) {P : List (Int × Int)} (hP : P.length = n) {m : Nat} (h6 : m < 6) :
    lawN (sqF P m) = true ↔ (Pr N (psOf N) : R N) * (u6 m * Su (Xp (N / n)) sq1 (polyg P) + 2 * Su (Xp (N / n)) nn1 (polyg P) + u6 ((6 - m) % 6) * Su (Xp (N / n)) sb1 (polyg P)) = 0 := by
  have hl : (sqF P m).length = n := by simp [sqF, polyg_len, hP]
  rw [row_iff hm hN hl]
  unfold sqF
  rw [Su_map]
  have key := Su_lin (Xp (N / n)) (Pr N (psOf N)) (c6 m) (u6 m) 2 (u6 ((6 - m) % 6)) (fun p : Int × Int => mo (seen m p * seen m p) 0) sq1 nn1 sb1 (fun p => seen_sq (pN_third hm hN) (w_three hm hN) m h6 p) (polyg P)
  rw [← key]
  generalize Su (Xp (N / n)) (fun p : Int × Int => (mo (seen m p * seen m p) 0 : R N)) (polyg P) = F
  unfold c6
  split
  · have : (Pr N (psOf N) : R N) * (1 * F) = Pr N (psOf N) * F := by grind
    rw [this]
  · constructor
    · intro h
      have : (Pr N (psOf N) : R N) * (3 * F) = 3 * (Pr N (psOf N) * F) := by grind
      rw [this, h]
      grind
    · intro h
      refine tors (v := 3) (by decide) ?_
      have h3 : (mo 3 0 : R N) = 3 := rfl
      have : (3 : R N) * (Pr N (psOf N) * F) = Pr N (psOf N) * (3 * F) := by grind
      rw [h3, this, h]
theorem std_iff (hm : n ∈ slotsL) (hN : N = ordOf n) {P : List (Int × Int)} (hP : P.length = n) :
    lawN ((polyg P).map nrm) = true ↔ (Pr N (psOf N) : R N) * Su (Xp (N / n)) nn1 (polyg P) = 0 := by
  rw [row_iff hm hN (by simp [polyg_len, hP]), Su_map]
  have : (fun p : Int × Int => (mo (nrm p) 0 : R N)) = nn1 := funext fun p => by
    unfold nrm nn1 A1 B1
    rw [mo_add, mo_sub, mo_mul0, mo_mul0, mo_mul0]
  rw [this]
theorem wv1_iff (hm : n ∈ slotsL) (hN : N = ordOf n) {P : List (Int × Int)} (hP : P.length = n) :
    lawN (lawRow ((polyg P).map fun p => mulP p p) 1) = true ↔ (Pr N (psOf N) : R N) * Su (Xp (N / n)) sq1 (polyg P) = 0 := by
  rw [wave_iff hm hN (by simp [polyg_len, hP]), Su_map, Nat.one_mul]
  have h3 := pN_third hm hN
  rw [Su_eq (Xp (N / n)) (Pr N (psOf N)) (fun p : Int × Int => pt (mulP p p)) sq1 fun p => by
    unfold pt mulP sq1 A1 B1
    dsimp only
    rw [mo_sub, mo_mul0, mo_mul0, mo_sub, mo_add, mo_mul0, mo_mul0, mo_mul0]
    grind]
theorem wv2_iff (hm : n ∈ slotsL) (hN : N = ordOf n) {P : List (Int × Int)} (hP : P.length = n) :
    lawN (lawRow ((polyg P).map fun p => mulP p p) (n - 1)) = true ↔ (Pr N (psOf N) : R N) * Su (Xp (N / n)) sb1 (polyg P) = 0 := by
  have hn := slots_pos hm
  obtain ⟨e, _, _⟩ := ord_fact n hm
  rw [← hN] at e
  rw [wave_iff hm hN (by simp [polyg_len, hP]), Su_map, ← cj_nul, Su_cj]
  have h3 := pN_third hm hN
  have hw := w_three hm hN
  have hcw : cj (Xp (N / 3) : R N) = Xp (N / 3) * Xp (N / 3) := by
    have := cj_Xp (N := N) (t := N / 3)
    have e1 : cj (Xp (N / 3) : R N) = (cj (Xp (N / 3)) * Xp (N / 3)) * (Xp (N / 3) * Xp (N / 3)) := by grind
    rw [e1, this]
    grind
  have hcy : cj (Xp ((n - 1) * (N / n)) : R N) = Xp (N / n) := by
    have := cj_Xp (N := N) (t := (n - 1) * (N / n))
    have e2 : (Xp ((n - 1) * (N / n)) : R N) * Xp (N / n) = 1 := by
      rw [Xp_add]
      apply Xp_self
      have : (n - 1) * (N / n) + N / n = N := by
        have : (n - 1) * (N / n) + N / n = (n - 1 + 1) * (N / n) := by rw [Nat.add_mul, Nat.one_mul]
        rw [this]
        have : n - 1 + 1 = n := by omega
        rw [this, Nat.mul_comm]
        exact e
      rw [this]; exact Nat.mod_self N
    have e3 : cj (Xp ((n - 1) * (N / n)) : R N) = cj (Xp ((n - 1) * (N / n))) * Xp ((n - 1) * (N / n)) * Xp (N / n) := by grind
    rw [e3, this]
    grind
  have hc0 : ∀ v : Int, cj (mo v 0 : R N) = mo v 0 := fun v => by
    rw [cj_mo]
    congr 1
    grind
  rw [hcy]
  rw [Su_eq (Xp (N / n)) (Pr N (psOf N)) (fun p : Int × Int => cj (pt (mulP p p))) sb1 fun p => by
    unfold pt mulP sb1 A1 B1
    dsimp only
    rw [cj_add, cj_mul, hcw, hc0, hc0, mo_sub, mo_mul0, mo_mul0, mo_sub, mo_add, mo_mul0, mo_mul0, mo_mul0]
    grind]
end
/-- with no force of one lobe there is no moment at which it is pulled -/
theorem calm {n : Nat} (hm : n ∈ slotsL) {P : List (Int × Int)} (hP : P.length = n) (h1 : lawN ((polyg P).map nrm) = true) (h2 : lawN (lawRow ((polyg P).map fun p => mulP p p) 1) = true) (h3 : lawN (lawRow ((polyg P).map fun p => mulP p p) (n - 1)) = true) {m : Nat} (h6 : m < 6) : lawN (sqF P m) = true := by
  have ho := ordOf_pos hm
  haveI : NeZero (ordOf n) := ⟨by omega⟩
  rw [std_iff hm rfl hP] at h1
  rw [wv1_iff hm rfl hP] at h2
  rw [wv2_iff hm rfl hP] at h3
  rw [fld_iff hm rfl hP h6]
  generalize (Pr (ordOf n) (psOf (ordOf n)) : R (ordOf n)) = Q at *
  generalize (Su (Xp (ordOf n / n)) sq1 (polyg P) : R (ordOf n)) = Z at *
  generalize (Su (Xp (ordOf n / n)) nn1 (polyg P) : R (ordOf n)) = B at *
  generalize (Su (Xp (ordOf n / n)) sb1 (polyg P) : R (ordOf n)) = V at *
  have : Q * (u6 m * Z + 2 * B + u6 ((6 - m) % 6) * V) = u6 m * (Q * Z) + 2 * (Q * B) + u6 ((6 - m) % 6) * (Q * V) := by grind
  rw [this, h1, h2, h3]
  grind
/-- three moments of the six at which it is not pulled: no force of one lobe -/
theorem stormy {n : Nat} (hm : n ∈ slotsL) {P : List (Int × Int)} (hP : P.length = n) {i j k : Nat} (hij : i < j) (hjk : j < k) (hk : k < 6) (h1 : lawN (sqF P i) = true) (h2 : lawN (sqF P j) = true) (h3 : lawN (sqF P k) = true) :
    lawN ((polyg P).map nrm) = true ∧ lawN (lawRow ((polyg P).map fun p => mulP p p) 1) = true ∧ lawN (lawRow ((polyg P).map fun p => mulP p p) (n - 1)) = true := by
  have ho := ordOf_pos hm
  haveI : NeZero (ordOf n) := ⟨by omega⟩
  rw [fld_iff hm rfl hP (by omega)] at h1
  rw [fld_iff hm rfl hP (by omega)] at h2
  rw [fld_iff hm rfl hP hk] at h3
  rw [std_iff hm rfl hP, wv1_iff hm rfl hP, wv2_iff hm rfl hP]
  obtain ⟨a, b, c⟩ := vander (pN_third hm rfl) (w_three hm rfl) hij hjk hk h1 h2 h3
  exact ⟨b, a, c⟩
theorem six_three (p : Int × Int) : six 3 p = (-p.1, -p.2) := by
  simp only [six, rot, Prod.mk.injEq]
  constructor <;> omega
theorem six_add (a b : Nat) (p : Int × Int) : six (a + b) p = six b (six a p) := by
  induction a generalizing p with
  | zero => simp [six]
  | succ a ih => rw [Nat.succ_add]; show six (a + b) (rot p) = six b (six a (rot p)); exact ih _
/-- half a turn later: the same squares -/
theorem half (P : List (Int × Int)) {m : Nat} (h : m < 6) : sqF P (m + 6) = sqF P m := by
  unfold sqF
  apply List.map_congr_left
  intro p _
  have key : seen (m + 6) p = -seen m p := by
    unfold seen
    have e1 : (m + 6) % 2 = m % 2 := by omega
    have e2 : (m + 6) / 2 % 6 = m / 2 % 6 + 3 := by omega
    rw [e1, e2, six_add, six_three]
    dsimp only
    split <;> omega
  rw [key, Int.neg_mul_neg]
theorem six_bools : ∀ b0 b1 b2 b3 b4 b5 : Bool, (∀ i j k : Fin 6, i < j → j < k → ¬ ([b0, b1, b2, b3, b4, b5].getD i.val false = true ∧ [b0, b1, b2, b3, b4, b5].getD j.val false = true ∧ [b0, b1, b2, b3, b4, b5].getD k.val false = true)) → ([b0, b1, b2, b3, b4, b5].filter id).length ≤ 2 := by decide
end K75

-- U4
namespace K75
open PySem PySem.Spec L2 VL PyProof.Rows K76
theorem okP_bls (xs : List Bool) : okP (.lst (xs.map D.bl)) = true ∧ okP (.tup (xs.map D.bl)) = true := by
  have h1 : toPs (xs.map D.bl) = some (xs.map PyData.bool) := by
    induction xs with
    | nil => rfl
    | cons x xs ih => simp [toPs, toP, ih]
  have h2 : PyData.canLayAll0 (xs.map PyData.bool) = true := by
    induction xs with
    | nil => simp [PyData.canLayAll0]
    | cons x xs ih =>
      simp [PyData.canLayAll0, PyData.canLay0]
      simp [toPs, toP] at h1
      exact ih (by
        clear ih h1
        induction xs with
        | nil => rfl
        | cons x xs ih => simp [toPs, toP, ih])
  have h3 : PyData.depthAll (xs.map PyData.bool) = 0 := by
    clear h1 h2
    induction xs with
    | nil => rfl
    | cons x xs ih => simp [PyData.depthAll, PyData.depth, ih]
  simp [okP, toP, h1, SeqAt.shaped, PyData.canLay0, h2, PyData.depth, h3]
theorem eqP_bls (xs ys : List Bool) : eqP (.lst (xs.map D.bl)) (.lst (ys.map D.bl)) = decide (xs = ys) := by
  have h1 : ∀ xs : List Bool, toPs (xs.map D.bl) = some (xs.map PyData.bool) := by
    intro xs
    induction xs with
    | nil => rfl
    | cons x xs ih => simp [toPs, toP, ih]
  have h2 : ∀ xs ys : List Bool, PyData.eqvAll (xs.map PyData.bool) (ys.map PyData.bool) = decide (xs = ys) := by
    intro xs
    induction xs with
    | nil => intro ys; cases ys <;> simp [PyData.eqvAll]
    | cons x xs ih =>
      intro ys
      cases ys with
      | nil => simp [PyData.eqvAll]
      | cons y ys => simp [PyData.eqvAll, PyData.eqv, ih]; cases x <;> cases y <;> simp
  simp [eqP, toP, h1, PyData.eqv, h2]
def okD (d : D) : Prop := okR d = true ∧ wtD d ≤ 30000 ∧ dpD d ≤ 30
theorem ok2 {d : D} (h : okD d) : okR (.lst [d, d]) = true ∧ wtD (.lst [d, d]) ≤ 80000 ∧ dpD (.lst [d, d]) ≤ 40 := by
  obtain ⟨h1, h2, h3⟩ := h
  refine ⟨by simp [okR, okRs, h1], ?_, ?_⟩
  · simp only [wtD, wtDs]; omega
  · simp only [dpD, dpDs]; omega
theorem okD_bl (b : Bool) : okD (.bl b) := ⟨rfl, by simp only [wtD]; omega, by simp only [dpD]; omega⟩
set_option maxHeartbeats 4000000 in
theorem sem_law_right : Sem 1 16 [0] b_law_right fs_law_right := by
  rintro ds Qv hl ⟨u, rfl, hu, q⟩
  unfold b_law_right
  refine seq_of (fun Γ => ∃ (u : List D) (n : Nat), U u ∧ n ∈ slotsL ∧ Γ = [.io u, .sh (.int n), .un, .un, .un, .un, .un, .un, .un, .un, .un, .un, .un, .un, .un, .un]) (fun k hk => ?_) ?_
  · walk_at "vs"
    refine ⟨by decide, u, _, rfl, hu, by decide, by decide, fun x u' hx hu' => ?_⟩
    obtain ⟨n, rfl, hn⟩ : ∃ n : Nat, x = .int n ∧ n ∈ slotsL := by
      simp only [List.mem_cons, List.not_mem_nil, or_false] at hx
      rcases hx with rfl | rfl | rfl | rfl | rfl | rfl | rfl | rfl | rfl <;> exact ⟨_, rfl, by decide⟩
    walk_at "vs"
    exact hk _ ⟨u', n, hu', hn, rfl⟩
  rintro Γ ⟨u, n, hu, hm, rfl⟩
  refine seq_of (fun Γ => ∃ (u : List D) (a b c : List Int), U u ∧ Wd n a b c ∧ Γ = [.io u, .sh (.int n), .sh (wD a b c), .un, .un, .un, .un, .un, .un, .un, .un, .un, .un, .un, .un, .un]) (fun k hk => ?_) ?_
  · walk_at "vs"
    refine ⟨u, n, rfl, hu, hm, fun a b c u' hW hu' => ?_⟩
    walk_at "vs"
    exact hk _ ⟨u', a, b, c, hu', hW, rfl⟩
  rintro Γ ⟨u, a, b, c, hu, W, rfl⟩
  have hn := slots_pos hm
  have hpl := pts_len W
  have hpg := polyg_len (ptsOf a b c)
  have hsm := polyg_sm W
  have hss := seen_sm W
  obtain ⟨hs1, hs2⟩ := poly_short n hm
  have hpul : ∀ m, pul (ptsOf a b c) m = !lawN (sqF (ptsOf a b c) m) := fun m => by
    unfold pul hasO
    have hl2 : (sqF (ptsOf a b c) m).length = n := by simp [sqF, hpg, hpl]
    rw [hpl]
    have := redO_eq hs2 hl2
    unfold redO at this
    rw [this]
  have hstn : stnd (ptsOf a b c) = !lawN ((polyg (ptsOf a b c)).map nrm) := by
    unfold stnd hasO
    have hl2 : ((polyg (ptsOf a b c)).map nrm).length = n := by simp [hpg, hpl]
    rw [hpl]
    have := redO_eq hs2 hl2
    unfold redO at this
    rw [this]
  have hsl : ((polyg (ptsOf a b c)).map fun p => mulP p p).length = n := by simp [hpg, hpl]
  have hbts : ∀ h, bts (ptsOf a b c) h = !lawN (lawRow ((polyg (ptsOf a b c)).map fun p => mulP p p) (h % (n : Int)).toNat) := fun h => by
    unfold bts
    rw [hasW_eq (by rw [hsl]; exact hm), hsl]
    rfl
  have hcalm := fun (h1 : lawN ((polyg (ptsOf a b c)).map nrm) = true) (h2 : lawN (lawRow ((polyg (ptsOf a b c)).map fun p => mulP p p) 1) = true) (h3 : lawN (lawRow ((polyg (ptsOf a b c)).map fun p => mulP p p) (n - 1)) = true) (m : Nat) (h6 : m < 6) => calm hm hpl h1 h2 h3 h6
  have hstorm := fun (i j k : Nat) (hij : i < j) (hjk : j < k) (hk : k < 6) => stormy hm hpl hij hjk hk
  have hhalf := fun (m : Nat) (h : m < 6) => half (ptsOf a b c) h
  refine seq_of (fun Γ => Γ = [.io u, .sh (.int n), .sh (wD a b c), .un, .un, .un, .un, .un, .ac ((polyg (ptsOf a b c)).map pD), .ac [], .un, .un, .un, .un, .un, .un]) (fun k hk => ?_) ?_
  · walk_at "vs"
    refine ⟨n, a, b, c, rfl, W, ?_⟩
    walk_at "vs"
    refine ⟨_, rfl, by rw [hpl]; exact hm, ?_⟩
    walk_at "vs"
    first
      | exact hk _ rfl
      | exact ⟨by decide, hk _ rfl⟩
  rintro Γ rfl
  generalize hG : polyg (ptsOf a b c) = G at *
  have hGl : G.length = n := by omega
  refine seq_of (fun Γ => ∃ (s8 : VL.Slot) (o3 o7 o10 o11 o12 o14 o15 : Option D), (s8 = .ac (G.map pD) ∨ s8 = .sh (K76.lp G)) ∧ Γ = [.io u, .sh (.int n), .sh (wD a b c), oS o3, .un, .un, .un, oS o7, s8, .ac (((List.range 12).map fun m => !lawN (sqF (ptsOf a b c) m)).map D.bl), oS o10, oS o11, oS o12, .un, oS o14, oS o15]) (fun k hk => ?_) ?_
  · walk_at "vs"
    refine ⟨by unfold smallI; omega, ?_⟩
    unfold rgD
    refine loop_invT (fun i Γ => ∃ (s8 : VL.Slot) (o3 o7 o10 o11 o12 o14 o15 : Option D), (s8 = .ac (G.map pD) ∨ s8 = .sh (K76.lp G)) ∧ Γ = [.io u, .sh (.int n), .sh (wD a b c), oS o3, .un, .un, .un, oS o7, s8, .ac (((List.range i).map fun m => !lawN (sqF (ptsOf a b c) m)).map D.bl), oS o10, oS o11, oS o12, .un, oS o14, oS o15]) ⟨_, none, none, none, none, none, none, none, .inl rfl, rfl⟩ ?_ ?_
    · rintro i m Γ kk e ⟨s8, o3, o7, o10, o11, o12, o14, o15, h8, rfl⟩ hkk
      obtain ⟨rfl, hlt⟩ := range_get e
      have hm12 : m < 12 := by simpa using hlt
      have e0 : (0 : Int) + (m : Int) * 1 = m := by omega
      rw [e0]
      simp only [gNm, gPut_eq, gAt, noIo_oS, List.getElem?_cons_zero, List.getElem?_cons_succ, slotOf, if_true, gSet, Slot.to]
      have hsq : ∀ j, ((G.take j).map fun p => seen m p * seen m p).length ≤ n := fun j => by simp; omega
      have hsqF : (G.map fun p => seen m p * seen m p) = sqF (ptsOf a b c) m := by unfold sqF; rw [hG]
      refine seq_of (fun Γ => Γ = [.io u, .sh (.int n), .sh (wD a b c), .sh (.int m), .un, .un, .un, oS o7, s8, .ac (((List.range m).map fun m => !lawN (sqF (ptsOf a b c) m)).map D.bl), .ac [], oS o11, oS o12, .un, oS o14, oS o15]) (fun k hk => ?_) ?_
      · walk_at "vs"
        first
          | exact hk _ rfl
          | exact ⟨by decide, hk _ rfl⟩
      rintro Γ rfl
      refine seq_of (fun Γ => ∃ (o11 o12 o14 o15 : Option D), Γ = [.io u, .sh (.int n), .sh (wD a b c), .sh (.int m), .un, .un, .un, oS o7, .sh (K76.lp G), .ac (((List.range m).map fun m => !lawN (sqF (ptsOf a b c) m)).map D.bl), .ac ((sqF (ptsOf a b c) m).map D.int), oS o11, oS o12, .un, oS o14, oS o15]) (fun k hk => ?_) ?_
      · rcases h8 with rfl | rfl
        all_goals
          walk_at "vs"
          refine loop_invT (fun j Γ => ∃ (o11 o12 o14 o15 : Option D), Γ = [.io u, .sh (.int n), .sh (wD a b c), .sh (.int m), .un, .un, .un, oS o7, .sh (K76.lp G), .ac (((List.range m).map fun m => !lawN (sqF (ptsOf a b c) m)).map D.bl), .ac (((G.take j).map fun p => seen m p * seen m p).map D.int), oS o11, oS o12, .un, oS o14, oS o15]) ⟨o11, o12, o14, o15, rfl⟩ ?_ ?_
          · rintro j p Γ k2 e2 ⟨o11, o12, o14, o15, rfl⟩ hk2
            have hj : j < G.length := (List.getElem?_eq_some_iff.mp e2).1
            have hp : p ∈ G := List.mem_of_getElem? e2
            have hj2 := hsq j
            have e3 : (G.take (j + 1)).map (fun p => seen m p * seen m p) = (G.take j).map (fun p => seen m p * seen m p) ++ [seen m p * seen m p] := by
              rw [List.take_add_one, e2, List.map_append]
              rfl
            rw [e3] at hk2
            have e1 : ((m : Int) / 2 % 6).toNat = m / 2 % 6 := by omega
            walk_at "vs"
            refine ⟨⟨by decide, log_9000 (by decide) (by decide)⟩, p, _, rfl, ?_⟩
            rw [e1]
            walk_at "vs"
            refine ⟨by decide, ?_⟩
            have fin : ∀ (x : Int), x = seen m p → (∃ h : sm x, True) := fun x hx => ⟨by rw [hx]; exact hss m p hp, trivial⟩
            by_cases h : m % 2 = 0
            · have h2 : (m : Int) % 2 = 0 := by omega
              have es : 2 * (six (m / 2 % 6) p).1 - (six (m / 2 % 6) p).2 = seen m p := by unfold seen; rw [if_pos h]
              simp only [h2, decide_true, if_true]
              rw [es]
              refine ⟨cm_l (by decide), cm_s (hss m p hp) (hss m p hp), by simp [LN_eq]; omega, hk2 _ ⟨some (pD p), some (.int (seen m p)), some (.int (six (m / 2 % 6) p).1), some (.int (six (m / 2 % 6) p).2), ?_⟩⟩
              rw [List.map_append]
              rfl
            · have h2 : ¬ (m : Int) % 2 = 0 := by omega
              have es : (six (m / 2 % 6) p).1 - (six (m / 2 % 6) p).2 = seen m p := by unfold seen; rw [if_neg h]
              simp only [h2, decide_false, Bool.false_eq_true, if_false]
              rw [es]
              refine ⟨cm_s (hss m p hp) (hss m p hp), by simp [LN_eq]; omega, hk2 _ ⟨some (pD p), some (.int (seen m p)), some (.int (six (m / 2 % 6) p).1), some (.int (six (m / 2 % 6) p).2), ?_⟩⟩
              rw [List.map_append]
              rfl
          · rintro Γ ⟨o11, o12, o14, o15, rfl⟩
            rw [List.take_length, hsqF]
            exact hk _ ⟨o11, o12, o14, o15, rfl⟩
      rintro Γ ⟨o11, o12, o14, o15, rfl⟩
      have hl2 : (sqF (ptsOf a b c) m).length = n := by rw [← hsqF]; simp [hGl]
      refine seq_of (fun Γ => Γ = [.io u, .sh (.int n), .sh (wD a b c), .sh (.int m), .un, .un, .un, .sh (.bl (!lawN (sqF (ptsOf a b c) m))), .sh (K76.lp G), .ac (((List.range m).map fun m => !lawN (sqF (ptsOf a b c) m)).map D.bl), .sh (li (sqF (ptsOf a b c) m)), oS o11, oS o12, .un, oS o14, oS o15]) (fun k hk => ?_) ?_
      · walk_at "vs"
        refine ⟨_, rfl, by rw [hl2]; exact hs2, ?_⟩
        walk_at "vs"
        exact hk _ rfl
      rintro Γ rfl
      refine seq_of (fun Γ => Γ = [.io u, .sh (.int n), .sh (wD a b c), .sh (.int m), .un, .un, .un, .sh (.bl (!lawN (sqF (ptsOf a b c) m))), .sh (K76.lp G), .ac (((List.range (m + 1)).map fun m => !lawN (sqF (ptsOf a b c) m)).map D.bl), .sh (li (sqF (ptsOf a b c) m)), oS o11, oS o12, .un, oS o14, oS o15]) (fun k hk => ?_) ?_
      · walk_at "vs"
        refine ⟨by simp [LN_eq]; omega, hk _ ?_⟩
        rw [List.range_succ, List.map_append, List.map_append]
        rfl
      rintro Γ rfl
      walk_at "vs"
      refine ⟨n, a, b, c, m, rfl, W, hm12, ?_⟩
      walk_at "vs"
      refine ⟨n, a, b, c, m, rfl, W, hm12, ?_⟩
      walk_at "vs"
      rw [hpul]
      have ok := ok2 (okD_bl (!lawN (sqF (ptsOf a b c) m)))
      refine ⟨by decide, ok, by decide, ok, ?_⟩
      simp only [decide_true, Bool.not_true, Bool.false_eq_true, if_false]
      exact hkk _ ⟨_, some (.int m), some (.bl _), some (li _), o11, o12, o14, o15, .inr rfl, rfl⟩
    · rintro Γ ⟨s8, o3, o7, o10, o11, o12, o14, o15, h8, rfl⟩
      exact hk _ ⟨s8, o3, o7, o10, o11, o12, o14, o15, h8, rfl⟩
  rintro Γ ⟨s8, o3, o7, o10, o11, o12, o14, o15, h8, rfl⟩
  have e1n : ((1 : Int) % (n : Int)).toNat = 1 := by rw [Int.emod_eq_of_lt (by omega) (by omega)]; rfl
  have e2n : ((-1 : Int) % (n : Int)).toNat = n - 1 := by
    have : (-1 : Int) % (n : Int) = (n : Int) - 1 := by
      rw [← Int.add_emod_right, Int.emod_eq_of_lt (by omega) (by omega)]
      omega
    omega
  have b1 := hbts 1
  have b2 := hbts (-1)
  rw [e1n] at b1
  rw [e2n] at b2
  clear hbts
  have hlist : ((List.range 12).map fun m => !lawN (sqF (ptsOf a b c) m)) = (List.range 6).map (fun m => !lawN (sqF (ptsOf a b c) m)) ++ (List.range 6).map (fun m => !lawN (sqF (ptsOf a b c) m)) := by
    have e : ∀ f : Nat → Bool, (∀ m < 6, f (m + 6) = f m) → (List.range 12).map f = (List.range 6).map f ++ (List.range 6).map f := by
      intro f hf
      have e2 : (List.range 12).map f = (List.range 6).map f ++ (List.range 6).map (fun m => f (m + 6)) := rfl
      rw [e2]
      refine congrArg (fun r => (List.range 6).map f ++ r) (List.map_congr_left fun m hm6 => hf m (List.mem_range.mp hm6))
    exact e _ fun m h6 => by rw [hhalf m h6]
  have hcalm2 : lawN (G.map nrm) = true → lawN (lawRow (G.map fun p => mulP p p) 1) = true → lawN (lawRow (G.map fun p => mulP p p) (n - 1)) = true → ∀ m < 6, (!lawN (sqF (ptsOf a b c) m)) = false := fun h1 h2 h3 m h6 => by rw [hcalm h1 h2 h3 m h6]; rfl
  have hsix := six_bools (lawN (sqF (ptsOf a b c) 0)) (lawN (sqF (ptsOf a b c) 1)) (lawN (sqF (ptsOf a b c) 2)) (lawN (sqF (ptsOf a b c) 3)) (lawN (sqF (ptsOf a b c) 4)) (lawN (sqF (ptsOf a b c) 5))
  have hstorm2 : ¬ (lawN (G.map nrm) = true ∧ lawN (lawRow (G.map fun p => mulP p p) 1) = true ∧ lawN (lawRow (G.map fun p => mulP p p) (n - 1)) = true) → ([lawN (sqF (ptsOf a b c) 0), lawN (sqF (ptsOf a b c) 1), lawN (sqF (ptsOf a b c) 2), lawN (sqF (ptsOf a b c) 3), lawN (sqF (ptsOf a b c) 4), lawN (sqF (ptsOf a b c) 5)].filter id).length ≤ 2 := by
    intro hno
    refine hsix fun i j k hij hjk ⟨h1, h2, h3⟩ => hno ?_
    have get : ∀ i : Fin 6, [lawN (sqF (ptsOf a b c) 0), lawN (sqF (ptsOf a b c) 1), lawN (sqF (ptsOf a b c) 2), lawN (sqF (ptsOf a b c) 3), lawN (sqF (ptsOf a b c) 4), lawN (sqF (ptsOf a b c) 5)].getD i.val false = lawN (sqF (ptsOf a b c) i.val) := by
      intro i
      match i with
      | 0 => rfl
      | 1 => rfl
      | 2 => rfl
      | 3 => rfl
      | 4 => rfl
      | 5 => rfl
    rw [get] at h1 h2 h3
    exact hstorm i.val j.val k.val hij hjk k.isLt h1 h2 h3
  clear hsix hstorm hcalm hhalf hpul
  have hr6 : (List.range 6).map (fun m => !lawN (sqF (ptsOf a b c) m)) = [!lawN (sqF (ptsOf a b c) 0), !lawN (sqF (ptsOf a b c) 1), !lawN (sqF (ptsOf a b c) 2), !lawN (sqF (ptsOf a b c) 3), !lawN (sqF (ptsOf a b c) 4), !lawN (sqF (ptsOf a b c) 5)] := rfl
  have c0 := fun h1 h2 h3 => hcalm2 h1 h2 h3 0 (by decide)
  have c1 := fun h1 h2 h3 => hcalm2 h1 h2 h3 1 (by decide)
  have c2 := fun h1 h2 h3 => hcalm2 h1 h2 h3 2 (by decide)
  have c3 := fun h1 h2 h3 => hcalm2 h1 h2 h3 3 (by decide)
  have c4 := fun h1 h2 h3 => hcalm2 h1 h2 h3 4 (by decide)
  have c5 := fun h1 h2 h3 => hcalm2 h1 h2 h3 5 (by decide)
  rw [hlist, hr6]
  clear hlist hr6 hcalm2
  generalize lawN (sqF (ptsOf a b c) 0) = t0 at *
  generalize lawN (sqF (ptsOf a b c) 1) = t1 at *
  generalize lawN (sqF (ptsOf a b c) 2) = t2 at *
  generalize lawN (sqF (ptsOf a b c) 3) = t3 at *
  generalize lawN (sqF (ptsOf a b c) 4) = t4 at *
  generalize lawN (sqF (ptsOf a b c) 5) = t5 at *
  simp only [List.cons_append, List.nil_append, List.map_cons, List.map_nil]
  refine seq_of (fun Γ => Γ = [.io u, .sh (.int n), .sh (wD a b c), oS o3, .un, .un, .un, oS o7, s8, .ac [.bl (!t0), .bl (!t1), .bl (!t2), .bl (!t3), .bl (!t4), .bl (!t5), .bl (!t0), .bl (!t1), .bl (!t2), .bl (!t3), .bl (!t4), .bl (!t5)], oS o10, oS o11, oS o12, .un, oS o14, oS o15]) (fun k hk => ?_) ?_
  · walk_at "vs"
    have g1 : ∀ x0 x1 x2 x3 x4 x5 : Bool, cutL [D.bl x0, D.bl x1, D.bl x2, D.bl x3, D.bl x4, D.bl x5, D.bl x0, D.bl x1, D.bl x2, D.bl x3, D.bl x4, D.bl x5] none (some 6) = [x0, x1, x2, x3, x4, x5].map D.bl := fun _ _ _ _ _ _ => rfl
    have g2 : ∀ x0 x1 x2 x3 x4 x5 : Bool, cutL [D.bl x0, D.bl x1, D.bl x2, D.bl x3, D.bl x4, D.bl x5, D.bl x0, D.bl x1, D.bl x2, D.bl x3, D.bl x4, D.bl x5] (some 6) none = [x0, x1, x2, x3, x4, x5].map D.bl := fun _ _ _ _ _ _ => rfl
    rw [g1, g2, eqP_bls]
    refine ⟨(okP_bls _).1, (okP_bls _).1, ?_⟩
    simp only [decide_true, Bool.not_true, Bool.false_eq_true, if_false]
    exact hk _ rfl
  rintro Γ rfl
  refine seq_of (fun Γ => ∃ o11, Γ = [.io u, .sh (.int n), .sh (wD a b c), oS o3, .sh (.bl (!lawN (G.map nrm))), .un, .un, oS o7, .sh (K76.lp G), .ac [.bl (!t0), .bl (!t1), .bl (!t2), .bl (!t3), .bl (!t4), .bl (!t5), .bl (!t0), .bl (!t1), .bl (!t2), .bl (!t3), .bl (!t4), .bl (!t5)], oS o10, oS o11, oS o12, .un, oS o14, oS o15]) (fun k hk => ?_) ?_
  · rcases h8 with rfl | rfl
    all_goals
      walk_at "vs"
      refine lc_mapT (fun p => .int (nrm p)) (by rw [LN_eq]; omega) (fun p acc kk hp hacc hkk => ?_) ?_
      · walk_at "vs"
        refine ⟨p, rfl, hsm p hp, ?_⟩
        walk_at "vs"
        exact ⟨hacc, hkk⟩
      walk_at "vs"
      refine ⟨G.map nrm, by simp [li, Function.comp_def], by rw [List.length_map, hGl]; exact hs2, ?_⟩
      walk_at "vs"
      exact hk _ ⟨o11, rfl⟩
  rintro Γ ⟨o11, rfl⟩
  refine seq_of (fun Γ => ∃ o11, Γ = [.io u, .sh (.int n), .sh (wD a b c), oS o3, .sh (.bl (!lawN (G.map nrm))), .ac ((G.map fun p => mulP p p).map pD), .un, oS o7, .sh (K76.lp G), .ac [.bl (!t0), .bl (!t1), .bl (!t2), .bl (!t3), .bl (!t4), .bl (!t5), .bl (!t0), .bl (!t1), .bl (!t2), .bl (!t3), .bl (!t4), .bl (!t5)], oS o10, oS o11, oS o12, .un, oS o14, oS o15]) (fun k hk => ?_) ?_
  · walk_at "vs"
    refine lc_mapT (fun p => pD (mulP p p)) (by rw [LN_eq]; omega) (fun p acc kk hp hacc hkk => ?_) ?_
    · walk_at "vs"
      refine ⟨p, p, rfl, hsm p hp, hsm p hp, ?_⟩
      walk_at "vs"
      exact ⟨hacc, hkk⟩
    refine hk _ ⟨o11, ?_⟩
    rw [List.map_map]
    rfl
  rintro Γ ⟨o11, rfl⟩
  generalize hq : (G.map fun p => mulP p p) = SQ at *
  have wv : ∀ (x : Int), x = 1 ∨ x = -1 → (x % (n : Int)).toNat = if x = 1 then 1 else n - 1 := by
    rintro x (rfl | rfl)
    · exact e1n
    · exact e2n
  have hll : ∀ h, (lawRow SQ h).length ∈ ordersL := fun h => by
    rw [lawRow_len, hsl]
    exact ord_mem hm
  refine seq_of (fun Γ => ∃ (s5 : VL.Slot), (s5 = .ac (SQ.map pD) ∨ s5 = .sh (K76.lp SQ)) ∧ Γ = [.io u, .sh (.int n), .sh (wD a b c), oS o3, .sh (.bl (!lawN (G.map nrm))), s5, .ac [.bl (!lawN (lawRow SQ 1)), .bl (!lawN (lawRow SQ (n - 1)))], oS o7, .sh (K76.lp G), .ac [.bl (!t0), .bl (!t1), .bl (!t2), .bl (!t3), .bl (!t4), .bl (!t5), .bl (!t0), .bl (!t1), .bl (!t2), .bl (!t3), .bl (!t4), .bl (!t5)], oS o10, oS o11, oS o12, .un, oS o14, oS o15]) (fun k hk => ?_) ?_
  · walk_at "vs"
    refine ⟨by decide, ?_⟩
    refine lc_inv (fun i acc Γ => ∃ (s5 : VL.Slot), (s5 = .ac (SQ.map pD) ∨ s5 = .sh (K76.lp SQ)) ∧ acc = [D.bl (!lawN (lawRow SQ 1)), D.bl (!lawN (lawRow SQ (n - 1)))].take i ∧ Γ = [.io u, .sh (.int n), .sh (wD a b c), oS o3, .sh (.bl (!lawN (G.map nrm))), s5, .un, oS o7, .sh (K76.lp G), .ac [.bl (!t0), .bl (!t1), .bl (!t2), .bl (!t3), .bl (!t4), .bl (!t5), .bl (!t0), .bl (!t1), .bl (!t2), .bl (!t3), .bl (!t4), .bl (!t5)], oS o10, oS o11, oS o12, .un, oS o14, oS o15]) ⟨_, .inl rfl, rfl, rfl⟩ ?_ ?_
    · rintro i d acc Γ kk e ⟨s5, h5, rfl, rfl⟩ hkk
      obtain ⟨x, rfl, hx, hi, hacc⟩ : ∃ x : Int, d = .int x ∧ (x = 1 ∨ x = -1) ∧ i < 2 ∧ [D.bl (!lawN (lawRow SQ 1)), D.bl (!lawN (lawRow SQ (n - 1)))].take (i + 1) = [D.bl (!lawN (lawRow SQ 1)), D.bl (!lawN (lawRow SQ (n - 1)))].take i ++ [D.bl (!lawN (lawRow SQ (if x = 1 then 1 else n - 1)))] := by
        match i, e with
        | 0, e => exact ⟨1, (Option.some.inj e).symm, .inl rfl, by decide, rfl⟩
        | 1, e => exact ⟨-1, (Option.some.inj e).symm, .inr rfl, by decide, rfl⟩
        | i + 2, e => simp at e
      have hk3 := hkk _ _ ⟨_, .inr rfl, hacc.symm, rfl⟩
      have hwx := wv x hx
      generalize hAA : [D.bl (!lawN (lawRow SQ 1)), D.bl (!lawN (lawRow SQ (n - 1)))].take i = AA at *
      have hal : AA.length ≤ 2 := by rw [← hAA]; simp; omega
      rcases h5 with rfl | rfl
      all_goals
        walk_at "vs"
        refine ⟨SQ, x, rfl, by rw [hsl]; exact hm, ?_⟩
        rw [hsl, hwx]
        walk_at "vs"
        refine ⟨_, rfl, hll _, ?_⟩
        walk_at "vs"
        exact ⟨by rw [LN_eq]; omega, hk3⟩
    · rintro acc Γ ⟨s5, h5, rfl, rfl⟩
      walk_at "vs"
      exact hk _ ⟨s5, h5, rfl⟩
  rintro Γ ⟨s5, h5, rfl⟩
  generalize hw1 : lawN (lawRow SQ 1) = w1 at *
  generalize hw2 : lawN (lawRow SQ (n - 1)) = w2 at *
  generalize hst : lawN (G.map nrm) = st at *
  have hs5 : noIo s5 = true := by rcases h5 with rfl | rfl <;> rfl
  refine seq_of (fun Γ => Γ = [.io u, .sh (.int n), .sh (wD a b c), oS o3, .sh (.bl (!st)), s5, .ac [.bl (!w1), .bl (!w2)], .sh (.tup [.bl (!st), .bl (!w1 || !w2)]), .sh (K76.lp G), .ac [.bl (!t0), .bl (!t1), .bl (!t2), .bl (!t3), .bl (!t4), .bl (!t5), .bl (!t0), .bl (!t1), .bl (!t2), .bl (!t3), .bl (!t4), .bl (!t5)], oS o10, oS o11, oS o12, .un, oS o14, oS o15]) (fun k hk => ?_) ?_
  · walk_at "vs"
    refine optI_at (by decide) rfl ?_
    try walk_at "vs"
    cases w1
    · simp only [Bool.not_false, if_true]
      exact ⟨by decide, hk _ rfl⟩
    · simp only [Bool.not_true, Bool.false_eq_true, if_false]
      refine optI_at (by decide) rfl ?_
      try walk_at "vs"
      exact ⟨by decide, hk _ rfl⟩
  rintro Γ rfl
  refine seq_of (fun Γ => Γ = [.io u, .sh (.int n), .sh (wD a b c), oS o3, .sh (.bl (!st)), s5, .ac [.bl (!w1), .bl (!w2)], .sh (.tup [.bl (!st), .bl (!w1 || !w2)]), .sh (K76.lp G), .ac [.bl (!t0), .bl (!t1), .bl (!t2), .bl (!t3), .bl (!t4), .bl (!t5), .bl (!t0), .bl (!t1), .bl (!t2), .bl (!t3), .bl (!t4), .bl (!t5)], oS o10, oS o11, oS o12, .un, oS o14, oS o15]) (fun k hk => ?_) ?_
  · walk_at "vs"
    refine ⟨n, a, b, c, rfl, W, ?_⟩
    walk_at "vs"
    refine ⟨n, a, b, c, rfl, W, ?_⟩
    walk_at "vs"
    rw [hstn, b1, b2]
    have ok := ok2 (d := .tup [.bl (!st), .bl (!w1 || !w2)]) ⟨rfl, by simp only [wtD, wtDs]; omega, by simp only [dpD, dpDs]; decide⟩
    refine ⟨by decide, ok, by decide, ok, ?_⟩
    simp only [decide_true, Bool.not_true, Bool.false_eq_true, if_false]
    exact hk _ rfl
  rintro Γ rfl
  refine seq_of (fun Γ => Γ = [.io u, .sh (.int n), .sh (wD a b c), oS o3, .sh (.bl (!st)), s5, .ac [.bl (!w1), .bl (!w2)], .sh (.tup [.bl (!st), .bl (!w1 || !w2)]), .sh (K76.lp G), .ac [.bl (!t0), .bl (!t1), .bl (!t2), .bl (!t3), .bl (!t4), .bl (!t5), .bl (!t0), .bl (!t1), .bl (!t2), .bl (!t3), .bl (!t4), .bl (!t5)], oS o10, oS o11, oS o12, .un, oS o14, oS o15]) (fun k hk => ?_) ?_
  · walk_at "vs"
    refine ⟨n, a, b, c, 1, rfl, W, .inl rfl, ?_⟩
    walk_at "vs"
    refine ⟨n, a, b, c, 1, rfl, W, .inl rfl, ?_⟩
    walk_at "vs"
    refine ⟨n, a, b, c, -1, rfl, W, .inr rfl, ?_⟩
    walk_at "vs"
    rw [hstn, b1, b2]
    have ok : okR (D.lst [D.bl !st, D.bl !w1, D.bl !w2]) = true ∧ wtD (D.lst [D.bl !st, D.bl !w1, D.bl !w2]) ≤ 80000 ∧ dpD (D.lst [D.bl !st, D.bl !w1, D.bl !w2]) ≤ 40 := ⟨rfl, by simp only [wtD, wtDs]; omega, by simp only [dpD, dpDs]; decide⟩
    refine ⟨by decide, ok, by decide, by decide, ok, ?_⟩
    simp only [decide_true, Bool.not_true, Bool.false_eq_true, if_false]
    exact hk _ rfl
  rintro Γ rfl
  have hdue : eqP (.tup [.bl (!st), .bl (!w1 || !w2)]) (.tup [.bl false, .bl false]) = (st && w1 && w2) := by
    cases st <;> cases w1 <;> cases w2 <;> rfl
  have hfin : (st && w1 && w2) = false → ([t0, t1, t2, t3, t4, t5].filter id).length ≤ 2 := fun h => hstorm2 (by
    rintro ⟨rfl, rfl, rfl⟩
    simp at h)
  have hcal : (st && w1 && w2) = true → t0 = true ∧ t1 = true ∧ t2 = true ∧ t3 = true ∧ t4 = true ∧ t5 = true := fun h => by
    simp only [Bool.and_eq_true] at h
    obtain ⟨⟨h1, h2⟩, h3⟩ := h
    have d0 := c0 h1 h2 h3
    have d1 := c1 h1 h2 h3
    have d2 := c2 h1 h2 h3
    have d3 := c3 h1 h2 h3
    have d4 := c4 h1 h2 h3
    have d5 := c5 h1 h2 h3
    simp only [Bool.not_eq_false'] at d0 d1 d2 d3 d4 d5
    exact ⟨d0, d1, d2, d3, d4, d5⟩
  walk_at "vs"
  rw [hdue]
  refine ⟨by decide, (okP_bls [!st, !w1 || !w2]).2, (okP_bls [false, false]).2, ?_⟩
  cases hz : (st && w1 && w2)
  · simp only [Bool.false_eq_true, if_false]
    have g1 : cutL [D.bl (!t0), D.bl (!t1), D.bl (!t2), D.bl (!t3), D.bl (!t4), D.bl (!t5), D.bl (!t0), D.bl (!t1), D.bl (!t2), D.bl (!t3), D.bl (!t4), D.bl (!t5)] none (some 6) = [t0, t1, t2, t3, t4, t5].map fun t => D.bl (!t) := rfl
    rw [g1]
    refine lc_fmT (fun t => if t = true then some (.bl (!t)) else none) (by simp [LN_eq]) (fun t acc kk _ hacc hkk => ?_) ?_
    · walk_at "vs"
      cases t
      · simpa using hkk
      · simp only [Bool.not_true, Bool.not_false, if_true]
        exact ⟨hacc, by simpa using hkk⟩
    · have e1 : ([t0, t1, t2, t3, t4, t5].filterMap fun t => if t = true then some (D.bl (!t)) else none).length = ([t0, t1, t2, t3, t4, t5].filter id).length := by
        generalize [t0, t1, t2, t3, t4, t5] = L
        induction L with
        | nil => rfl
        | cons x L ih => cases x <;> simp [List.filterMap_cons, List.filter_cons] <;> simpa using ih
      rw [e1]
      have e2 : decide ((([t0, t1, t2, t3, t4, t5].filter id).length : Int) ≤ 2) = true := by
        rw [decide_eq_true_iff]
        have := hfin hz
        omega
      rw [e2]
      exact q u hu
  · obtain ⟨rfl, rfl, rfl, rfl, rfl, rfl⟩ := hcal hz
    simp only [if_true]
    exact ⟨[false, false, false, false, false, false, false, false, false, false, false, false], rfl, q u hu⟩
theorem sem_law0 : Sem 1 2 [] b_law0 fs_law0 := by
  rintro ds Qv hl ⟨ns, rfl, hn, q⟩
  unfold b_law0
  walk_at "vs"
  simp only [List.length_map]
  generalize hx : (if (if (3 : Int) < (ns.length : Int) then (3 : Int) else (ns.length : Int)) > 2 then (if (3 : Int) < (ns.length : Int) then (3 : Int) else (ns.length : Int)) else 2) = x
  have hb : 0 ≤ x ∧ x ≤ 3 := by subst hx; split <;> (try split) <;> omega
  refine ⟨by unfold smallI; omega, ?_⟩
  unfold rgD
  refine lc_mapT (fun _ => .bl true) (by simp [LN_eq]; omega) (fun t acc k ht hacc hk => ?_) ?_
  · have ht2 := List.mem_range.mp ht
    have e : (0 : Int) + (t : Int) * 1 = t := by omega
    rw [e]
    simp only [wCallT]
    walk_at "vs"
    refine ⟨ns, t, rfl, by omega, fun u hu => ?_⟩
    walk_at "vs"
    refine ⟨u, rfl, hu, fun u' hu' => ?_⟩
    first
      | exact ⟨rfl, rfl, hacc, rfl, hk⟩
      | exact ⟨rfl, rfl, hacc, hk⟩
      | exact ⟨hacc, rfl, hk⟩
      | exact ⟨hacc, hk⟩
      | exact ⟨rfl, hacc, hk⟩
  · have e : (List.range x.toNat).map (fun _ => D.bl true) = ((List.range x.toNat).map fun _ => true).map D.bl := by rw [List.map_map]; rfl
    rw [e]
    walk_at "vs"
    have e2 : ((List.range x.toNat).map fun _ => true).all id = true := by simp
    rw [e2]
    exact q


theorem law_keeps : ∀ ns : List Int, ns.length ≤ 63 → fs_law0 [.fz (ns.map D.int)] fun d _ _ => d = .bl true := fun ns h => ⟨ns, rfl, h, rfl⟩
end K75

-- Wk75
namespace K75
open PySem PySem.Spec L2 VL PyProof.Rows K76
abbrev top (i : Nat) : Stmt := PySem.Challenge.pw_fieldslots_k75_whole_pulls_at_all_moment.main.body.getD i (.Pass ⟨0, 0, 0, 0⟩)
abbrev defs : List (Str × Stmt) := [
  (("poly_parted" : Str), top 2),
  (("prime_parts" : Str), top 3),
  (("times_less_one" : Str), top 4),
  (("by_less_one" : Str), top 5),
  (("polynomial_of_order" : Str), top 6),
  (("folded_round" : Str), top 7),
  (("reduced" : Str), top 8),
  (("is_whole" : Str), top 16),
  (("is_between" : Str), top 17),
  (("are_wholes" : Str), top 18),
  (("check_whole" : Str), top 20),
  (("made" : Str), top 21),
  (("is_nothing" : Str), top 22),
  (("is_slots" : Str), top 27),
  (("is_row" : Str), top 28),
  (("is_phase" : Str), top 29),
  (("check_winding" : Str), top 30),
  (("order_at" : Str), top 32),
  (("has_order" : Str), top 33),
  (("multiplied" : Str), top 35),
  (("led_round" : Str), top 36),
  (("norm_in" : Str), top 37),
  (("check_three" : Str), top 40),
  (("check_three_phases" : Str), top 41),
  (("points_of" : Str), top 42),
  (("corners_of" : Str), top 43),
  (("polygon_of" : Str), top 44),
  (("check_moment" : Str), top 47),
  (("seen_at" : Str), top 48),
  (("field_of" : Str), top 49),
  (("taken_by" : Str), top 51),
  (("norms_of" : Str), top 53),
  (("squares_of" : Str), top 54),
  (("can_reach" : Str), top 55),
  (("stands" : Str), top 56),
  (("beats" : Str), top 57),
  (("is_beating_one_sided" : Str), top 58),
  (("pulls_at" : Str), top 59),
  (("has_standing" : Str), top 60),
  (("has_beating" : Str), top 61),
  (("pulls" : Str), top 62),
  (("is_pulled_at" : Str), top 63),
  (("_law_urn" : Str), top 65),
  (("_law_draw" : Str), top 66),
  (("_law_pick" : Str), top 67),
  (("_law_turns" : Str), top 68),
  (("_law_wired" : Str), top 69),
  (("_law_points" : Str), top 70),
  (("_law_sixths" : Str), top 71),
  (("_law_norm" : Str), top 72),
  (("_law_times" : Str), top 73),
  (("_law_polygon" : Str), top 74),
  (("_law_spread" : Str), top 75),
  (("_law_repeated" : Str), top 76),
  (("_law_mirrored" : Str), top 77),
  (("_law_belted" : Str), top 78),
  (("_law_three" : Str), top 79),
  (("_law_wave_row" : Str), top 80),
  (("_law_is_nought" : Str), top 81),
  (("_law_right" : Str), top 82),
  (("law" : Str), top 83)]
abbrev blts : List Str := ["len", "range", "enumerate", "max", "list", "zip", "tuple", "isinstance", "bool", "int", "all", "sum", "abs", "divmod", "repr", "min"]
abbrev csts : List (Str × Int) := [(("MOST_SLOTS" : Str), (60 : Int)), (("LEAST_SLOTS" : Str), (2 : Int)), (("MOST_PHASES" : Str), (6 : Int)), (("THREE" : Str), (3 : Int)), (("MOMENTS" : Str), (12 : Int))]
def Txt (K : PySem.W.Frag) (mg : Str → Option Value) : Prop := (∀ p ∈ defs, At K mg p.1 p.2) ∧ (∀ x ∈ blts, mg x = none) ∧ (∀ p ∈ csts, ∃ t, mg p.1 = some (.int p.2 t)) ∧ mg "gcd" = some (.builtin "math.gcd")
section
variable {P : Program} {w : World} {K : PySem.W.Frag} {mg : Str → Option Value} {base : Heap}
theorem sc_poly_parted : FnScope ["poly", "other", "found", "start", "left", "size", "lead", "index", "entry"] ["poly", "other"] (defScope (top 2)) := ⟨rfl, rfl, rfl, by decide +kernel, rfl, by decide +kernel, by decide +kernel⟩
theorem ok_poly_parted (T : Txt K mg) : Ok P w K mg base 1 "poly_parted" (top 2) ["poly", "other"] [] fs_poly_parted := by
  have S := sc_poly_parted
  refine vfnO (T.1 _ (List.mem_of_getElem? (i := 0) rfl)) S (fun _ _ _ _ _ _ us hl => match us, hl with | [_, _], _ => rfl) fun C cdv A outer s H E _ hr => ⟨b_poly_parted, ?_, sem_poly_parted⟩
  have hu := VL.hu_of hr
  exact (vs_cons (v_par2 (i := 4) (j := 5) rfl S.nd (vf_cons (ve_bty br_list (T.2.1 _ (List.mem_of_getElem? (i := 4) rfl)) (va_cons (vo_var 0) va_nil)) (vf_cons (ve_blt br_len (T.2.1 _ (List.mem_of_getElem? (i := 0) rfl)) (va_cons (vo_var 1) va_nil)) vf_nil)))
  (vs_cons (v_set (i := 2) S.nd (ve_op or_mul (vo_e (ve_lst (va_cons (vo_e ve_int) va_nil))) (vo_e (ve_blt (br_max rfl) (T.2.1 _ (List.mem_of_getElem? (i := 3) rfl)) (va_cons (vo_e ve_int) (va_cons (vo_e (ve_op or_add (vo_e (ve_op or_sub (vo_e (ve_blt br_len (T.2.1 _ (List.mem_of_getElem? (i := 0) rfl)) (va_cons (vo_var 4) va_nil))) (vo_var 5))) (vo_e ve_int))) va_nil))))))
  (vs_cons (v_for PassesOwn.never rfl (vi_range3 (T.2.1 _ (List.mem_of_getElem? (i := 1) rfl)) (va_cons (vo_e (ve_op or_sub (vo_e (ve_blt br_len (T.2.1 _ (List.mem_of_getElem? (i := 0) rfl)) (va_cons (vo_var 4) va_nil))) (vo_var 5))) (va_cons (vo_e (ve_neg (vo_e ve_int))) (va_cons (vo_e (ve_neg (vo_e ve_int))) va_nil)))) (vg_name (i := 3) S.nd)
  (vs_cons (v_set (i := 6) S.nd (ve_ix (vo_var 4) (vo_e (ve_op or_sub (vo_e (ve_op or_add (vo_var 3) (vo_var 5))) (vo_e ve_int)))))
  (vs_cons (v_asg (ve_var 6) (vg_subN (i := 2) (ve_var 3)))
  (vs_cons (v_if (vt_cmp' (or_ne hu) (vo_var 6) (vo_e ve_int))
  (vs_cons (v_for PassesOwn.never rfl (vi_enum (T.2.1 _ (List.mem_of_getElem? (i := 2) rfl)) (va_cons (vo_e (ve_var 1)) va_nil)) (vg_tup rfl (vgs_cons (vg_name (i := 7) S.nd) (vgs_cons (vg_name (i := 8) S.nd) vgs_nil)))
  (vs_cons (v_asg (ve_op or_sub (vo_e (ve_ix (vo_var 4) (vo_e (ve_op or_add (vo_var 3) (vo_var 7))))) (vo_e (ve_op or_mul (vo_var 6) (vo_var 8)))) (vg_subN (i := 4) (ve_op or_add (vo_var 3) (vo_var 7))))
  vs_nil))
  vs_nil)
  vs_nil)
  vs_nil))))
  (vs_cons (v_ret (ve_tup (va_cons (vo_e (ve_var 2)) (va_cons (vo_e (ve_sl (vo_var 4) vp_none (vp_some (ve_op or_sub (vo_var 5) (vo_e ve_int))))) va_nil))))
  vs_nil))))
theorem sc_prime_parts : FnScope ["number", "found", "left", "divisor"] ["number"] (defScope (top 3)) := ⟨rfl, rfl, rfl, by decide +kernel, rfl, by decide +kernel, by decide +kernel⟩
theorem ok_prime_parts (T : Txt K mg) : Ok P w K mg base 1 "prime_parts" (top 3) ["number"] [] fs_prime_parts := by
  have S := sc_prime_parts
  refine vfnO (T.1 _ (List.mem_of_getElem? (i := 1) rfl)) S (fun _ _ _ _ _ _ us hl => match us, hl with | [_], _ => rfl) fun C cdv A outer s H E _ hr => ⟨b_prime_parts, ?_, sem_prime_parts⟩
  have hu := VL.hu_of hr
  exact (vs_cons (v_par3 (i := 1) (j := 2) (l := 3) rfl S.nd (vf_cons (ve_lst va_nil) (vf_cons (ve_var 0) (vf_cons ve_int vf_nil))))
  (vs_cons (v_while PassesOwn.never (vt_cmp' or_gt (vo_var 2) (vo_e ve_int))
  (vs_cons (v_if (vt_cmp' (or_eq hu) (vo_e (ve_op or_mod (vo_var 2) (vo_var 3))) (vo_e ve_int))
  (vs_cons (v_expr (ve_app (i := 1) (ve_var 3)))
  (vs_cons (v_while PassesOwn.never (vt_cmp' (or_eq hu) (vo_e (ve_op or_mod (vo_var 2) (vo_var 3))) (vo_e ve_int))
  (vs_cons (v_set (i := 2) S.nd (ve_op or_div (vo_var 2) (vo_var 3)))
  vs_nil))
  vs_nil))
  vs_nil)
  (vs_cons (v_set (i := 3) S.nd (ve_op or_add (vo_var 3) (vo_e ve_int)))
  vs_nil)))
  (vs_cons (v_retv 1)
  vs_nil)))
theorem sc_times_less_one : FnScope ["poly", "power", "one", "two"] ["poly", "power"] (defScope (top 4)) := ⟨rfl, rfl, rfl, by decide +kernel, rfl, by decide +kernel, by decide +kernel⟩
theorem ok_times_less_one (T : Txt K mg) : Ok P w K mg base 1 "times_less_one" (top 4) ["poly", "power"] [] fs_times_less_one := by
  have S := sc_times_less_one
  refine vfnO (T.1 _ (List.mem_of_getElem? (i := 2) rfl)) S (fun _ _ _ _ _ _ us hl => match us, hl with | [_, _], _ => rfl) fun C cdv A outer s H E _ hr => ⟨b_times_less_one, ?_, sem_times_less_one⟩
  exact (vs_cons (v_ret (ve_lc (own := [("one", 2), ("two", 3)]) rfl S.nd (blkOk_by (by kernel_rfl)) (vi_zip2 (T.2.1 _ (List.mem_of_getElem? (i := 5) rfl)) (va_cons (vo_e (ve_op or_add (vo_e (ve_op or_mul (vo_e (ve_lst (va_cons (vo_e ve_int) va_nil))) (vo_var 1))) (vo_e (ve_bty br_list (T.2.1 _ (List.mem_of_getElem? (i := 4) rfl)) (va_cons (vo_var 0) va_nil))))) (va_cons (vo_e (ve_op or_add (vo_e (ve_bty br_list (T.2.1 _ (List.mem_of_getElem? (i := 4) rfl)) (va_cons (vo_var 0) va_nil))) (vo_e (ve_op or_mul (vo_e (ve_lst (va_cons (vo_e ve_int) va_nil))) (vo_var 1))))) va_nil))) (fun _ _ _ _ _ => (vg_tup rfl (vgs_cons (vg_name (i := 2) S.nd) (vgs_cons (vg_name (i := 3) S.nd) vgs_nil)))) (fun _ _ _ _ _ => vts_nil) (fun _ _ _ _ _ => (ve_op or_sub (vo_var 2) (vo_var 3)))))
  vs_nil)
theorem sc_by_less_one : FnScope ["poly", "power", "found", "place"] ["poly", "power"] (defScope (top 5)) := ⟨rfl, rfl, rfl, by decide +kernel, rfl, by decide +kernel, by decide +kernel⟩
theorem ok_by_less_one (T : Txt K mg) : Ok P w K mg base 1 "by_less_one" (top 5) ["poly", "power"] [] fs_by_less_one := by
  have S := sc_by_less_one
  refine vfnO (T.1 _ (List.mem_of_getElem? (i := 3) rfl)) S (fun _ _ _ _ _ _ us hl => match us, hl with | [_, _], _ => rfl) fun C cdv A outer s H E _ hr => ⟨b_by_less_one, ?_, sem_by_less_one⟩
  exact (vs_cons (v_set (i := 2) S.nd (ve_bty br_list (T.2.1 _ (List.mem_of_getElem? (i := 4) rfl)) (va_cons (vo_var 0) va_nil)))
  (vs_cons (v_for PassesOwn.never rfl (vi_range3 (T.2.1 _ (List.mem_of_getElem? (i := 1) rfl)) (va_cons (vo_e (ve_op or_sub (vo_e (ve_blt br_len (T.2.1 _ (List.mem_of_getElem? (i := 0) rfl)) (va_cons (vo_var 2) va_nil))) (vo_e ve_int))) (va_cons (vo_e (ve_op or_sub (vo_var 1) (vo_e ve_int))) (va_cons (vo_e (ve_neg (vo_e ve_int))) va_nil)))) (vg_name (i := 3) S.nd)
  (vs_cons (v_asg (ve_op or_add (vo_e (ve_ix (vo_var 2) (vo_e (ve_op or_sub (vo_var 3) (vo_var 1))))) (vo_e (ve_ix (vo_var 2) (vo_var 3)))) (vg_subN (i := 2) (ve_op or_sub (vo_var 3) (vo_var 1))))
  vs_nil))
  (vs_cons (v_ret (ve_sl (vo_var 2) (vp_some (ve_var 1)) vp_none))
  vs_nil)))
theorem sc_polynomial_of_order : FnScope ["order", "prime", "found", "power", "above", "below", "more", "number"] ["order"] (defScope (top 6)) := ⟨rfl, rfl, rfl, by decide +kernel, rfl, by decide +kernel, by decide +kernel⟩
theorem ok_polynomial_of_order (T : Txt K mg) : Ok P w K mg base 2 "polynomial_of_order" (top 6) ["order"] [] fs_polynomial_of_order := by
  have S := sc_polynomial_of_order
  have k_by_less_one := ok_by_less_one (P := P) (w := w) (base := base) T
  have k_times_less_one := ok_times_less_one (P := P) (w := w) (base := base) T
  have k_prime_parts := ok_prime_parts (P := P) (w := w) (base := base) T
  refine vfnO (T.1 _ (List.mem_of_getElem? (i := 4) rfl)) S (fun _ _ _ _ _ _ us hl => match us, hl with | [_], _ => rfl) fun C cdv A outer s H E _ hr => ⟨b_polynomial_of_order, ?_, sem_polynomial_of_order⟩
  exact (vs_cons (v_par2 (i := 4) (j := 5) rfl S.nd (vf_cons (ve_lst (va_cons (vo_e (ve_var 0)) va_nil)) (vf_cons (ve_lst va_nil) vf_nil)))
  (vs_cons (v_for PassesOwn.never rfl (vi_seq (ve_callO k_prime_parts (hr.mono (by decide)) (va_cons (vo_e (ve_var 0)) va_nil))) (vg_name (i := 1) S.nd)
  (vs_cons (v_setLc (i := 6) (own := [("number", 7)]) rfl S.nd (blkOk_by (by kernel_rfl)) (vi_seq (ve_var 5)) (fun _ _ _ _ _ => (vg_name (i := 7) S.nd)) (fun _ _ _ _ _ => vts_nil) (fun _ _ _ _ _ => (ve_op or_div (vo_var 7) (vo_var 1))))
  (vs_cons (v_set (i := 5) S.nd (ve_op or_add (vo_var 5) (vo_e (ve_lc (own := [("number", 7)]) rfl S.nd (blkOk_by (by kernel_rfl)) (vi_seq (ve_var 4)) (fun _ _ _ _ _ => (vg_name (i := 7) S.nd)) (fun _ _ _ _ _ => vts_nil) (fun _ _ _ _ _ => (ve_op or_div (vo_var 7) (vo_var 1)))))))
  (vs_cons (v_set (i := 4) S.nd (ve_op or_add (vo_var 4) (vo_var 6)))
  vs_nil))))
  (vs_cons (v_set (i := 2) S.nd (ve_lst (va_cons (vo_e ve_int) va_nil)))
  (vs_cons (v_for PassesOwn.never rfl (vi_seq (ve_var 4)) (vg_name (i := 3) S.nd)
  (vs_cons (v_set (i := 2) S.nd (ve_callO k_times_less_one (hr.mono (by decide)) (va_cons (vo_e (ve_var 2)) (va_cons (vo_e (ve_var 3)) va_nil))))
  vs_nil))
  (vs_cons (v_for PassesOwn.never rfl (vi_seq (ve_var 5)) (vg_name (i := 3) S.nd)
  (vs_cons (v_set (i := 2) S.nd (ve_callO k_by_less_one (hr.mono (by decide)) (va_cons (vo_e (ve_var 2)) (va_cons (vo_e (ve_var 3)) va_nil))))
  vs_nil))
  (vs_cons (v_retv 2)
  vs_nil))))))
theorem sc_folded_round : FnScope ["numbers", "order", "found", "place", "number"] ["numbers", "order"] (defScope (top 7)) := ⟨rfl, rfl, rfl, by decide +kernel, rfl, by decide +kernel, by decide +kernel⟩
theorem ok_folded_round (T : Txt K mg) : Ok P w K mg base 1 "folded_round" (top 7) ["numbers", "order"] [] fs_folded_round := by
  have S := sc_folded_round
  refine vfnO (T.1 _ (List.mem_of_getElem? (i := 5) rfl)) S (fun _ _ _ _ _ _ us hl => match us, hl with | [_, _], _ => rfl) fun C cdv A outer s H E _ hr => ⟨b_folded_round, ?_, sem_folded_round⟩
  exact (vs_cons (v_set (i := 2) S.nd (ve_op or_mul (vo_e (ve_lst (va_cons (vo_e ve_int) va_nil))) (vo_var 1)))
  (vs_cons (v_for PassesOwn.never rfl (vi_enum (T.2.1 _ (List.mem_of_getElem? (i := 2) rfl)) (va_cons (vo_e (ve_var 0)) va_nil)) (vg_tup rfl (vgs_cons (vg_name (i := 3) S.nd) (vgs_cons (vg_name (i := 4) S.nd) vgs_nil)))
  (vs_cons (v_asg (ve_op or_add (vo_e (ve_ix (vo_var 2) (vo_e (ve_op or_mod (vo_var 3) (vo_var 1))))) (vo_var 4)) (vg_subN (i := 2) (ve_op or_mod (vo_var 3) (vo_var 1))))
  vs_nil))
  (vs_cons (v_retv 2)
  vs_nil)))
theorem sc_reduced : FnScope ["numbers", "order", "poly", "left", "found"] ["numbers", "order"] (defScope (top 8)) := ⟨rfl, rfl, rfl, by decide +kernel, rfl, by decide +kernel, by decide +kernel⟩
theorem ok_reduced (T : Txt K mg) : Ok P w K mg base 3 "reduced" (top 8) ["numbers", "order"] [] fs_reduced := by
  have S := sc_reduced
  have k_poly_parted := ok_poly_parted (P := P) (w := w) (base := base) T
  have k_folded_round := ok_folded_round (P := P) (w := w) (base := base) T
  have k_polynomial_of_order := ok_polynomial_of_order (P := P) (w := w) (base := base) T
  refine vfnO (T.1 _ (List.mem_of_getElem? (i := 6) rfl)) S (fun _ _ _ _ _ _ us hl => match us, hl with | [_, _], _ => rfl) fun C cdv A outer s H E _ hr => ⟨b_reduced, ?_, sem_reduced⟩
  exact (vs_cons (v_set (i := 2) S.nd (ve_callO k_polynomial_of_order (hr.mono (by decide)) (va_cons (vo_e (ve_var 1)) va_nil)))
  (vs_cons (v_set (i := 3) S.nd (ve_callO k_folded_round (hr.mono (by decide)) (va_cons (vo_e (ve_var 0)) (va_cons (vo_e (ve_var 1)) va_nil))))
  (vs_cons (v_set (i := 4) S.nd (ve_if (vt_cmp' or_ge (vo_e (ve_blt br_len (T.2.1 _ (List.mem_of_getElem? (i := 0) rfl)) (va_cons (vo_var 3) va_nil))) (vo_e (ve_blt br_len (T.2.1 _ (List.mem_of_getElem? (i := 0) rfl)) (va_cons (vo_var 2) va_nil)))) (ve_ix (vo_e (ve_callO k_poly_parted (hr.mono (by decide)) (va_cons (vo_e (ve_var 3)) (va_cons (vo_e (ve_var 2)) va_nil)))) (vo_e ve_int)) (ve_var 3)))
  (vs_cons (v_ret (ve_bty br_tuple (T.2.1 _ (List.mem_of_getElem? (i := 6) rfl)) (va_cons (vo_e (ve_op or_add (vo_var 4) (vo_e (ve_op or_mul (vo_e (ve_lst (va_cons (vo_e ve_int) va_nil))) (vo_e (ve_op or_sub (vo_e (ve_op or_sub (vo_e (ve_blt br_len (T.2.1 _ (List.mem_of_getElem? (i := 0) rfl)) (va_cons (vo_var 2) va_nil))) (vo_e ve_int))) (vo_e (ve_blt br_len (T.2.1 _ (List.mem_of_getElem? (i := 0) rfl)) (va_cons (vo_var 4) va_nil))))))))) va_nil)))
  vs_nil))))
theorem sc_is_whole : FnScope ["value"] ["value"] (defScope (top 16)) := ⟨rfl, rfl, rfl, by decide +kernel, rfl, by decide +kernel, by decide +kernel⟩
theorem ok_is_whole (T : Txt K mg) : Ok P w K mg base 1 "is_whole" (top 16) ["value"] [] fs_is_whole := by
  have S := sc_is_whole
  refine vfnO (T.1 _ (List.mem_of_getElem? (i := 7) rfl)) S (fun _ _ _ _ _ _ us hl => match us, hl with | [_], _ => rfl) fun C cdv A outer s H E _ hr => ⟨b_is_whole, ?_, sem_is_whole⟩
  exact (vs_cons (v_ret (ve_and (ve_isi .int (T.2.1 _ (List.mem_of_getElem? (i := 7) rfl)) (T.2.1 _ (List.mem_of_getElem? (i := 9) rfl)) (vo_var 0)) (ve_one (ve_not (ve_isi .bool (T.2.1 _ (List.mem_of_getElem? (i := 7) rfl)) (T.2.1 _ (List.mem_of_getElem? (i := 8) rfl)) (vo_var 0))))))
  vs_nil)
theorem sc_is_between : FnScope ["value", "low", "high"] ["value", "low", "high"] (defScope (top 17)) := ⟨rfl, rfl, rfl, by decide +kernel, rfl, by decide +kernel, by decide +kernel⟩
theorem ok_is_between (T : Txt K mg) : Ok P w K mg base 2 "is_between" (top 17) ["value", "low", "high"] [] fs_is_between := by
  have S := sc_is_between
  have k_is_whole := ok_is_whole (P := P) (w := w) (base := base) T
  refine vfnO (T.1 _ (List.mem_of_getElem? (i := 8) rfl)) S (fun _ _ _ _ _ _ us hl => match us, hl with | [_, _, _], _ => rfl) fun C cdv A outer s H E _ hr => ⟨b_is_between, ?_, sem_is_between⟩
  exact (vs_cons (v_ret (ve_and (ve_callO k_is_whole (hr.mono (by decide)) (va_cons (vo_e (ve_var 0)) va_nil)) (ve_and (ve_cmp or_le (vo_var 1) (vo_var 0)) (ve_one (ve_cmp or_le (vo_var 0) (vo_var 2))))))
  vs_nil)
theorem sc_are_wholes : FnScope ["value", "many", "number"] ["value", "many"] (defScope (top 18)) := ⟨rfl, rfl, rfl, by decide +kernel, rfl, by decide +kernel, by decide +kernel⟩
theorem ok_are_wholes (T : Txt K mg) : Ok P w K mg base 2 "are_wholes" (top 18) ["value", "many"] [] fs_are_wholes := by
  have S := sc_are_wholes
  have k_is_whole := ok_is_whole (P := P) (w := w) (base := base) T
  refine vfnO (T.1 _ (List.mem_of_getElem? (i := 9) rfl)) S (fun _ _ _ _ _ _ us hl => match us, hl with | [_, _], _ => rfl) fun C cdv A outer s H E _ hr => ⟨b_are_wholes, ?_, sem_are_wholes⟩
  have hu := VL.hu_of hr
  exact (vs_cons (v_ret (ve_and (ve_isi .tup (T.2.1 _ (List.mem_of_getElem? (i := 7) rfl)) (T.2.1 _ (List.mem_of_getElem? (i := 6) rfl)) (vo_var 0)) (ve_and (ve_cmp (or_eq hu) (vo_e (ve_blt br_len (T.2.1 _ (List.mem_of_getElem? (i := 0) rfl)) (va_cons (vo_var 0) va_nil))) (vo_var 1)) (ve_one (ve_blt (br_all rfl) (T.2.1 _ (List.mem_of_getElem? (i := 10) rfl)) (va_cons (vo_e (ve_lc (own := [("number", 2)]) rfl S.nd (blkOk_by (by kernel_rfl)) (vi_seq (ve_var 0)) (fun _ _ _ _ _ => (vg_name (i := 2) S.nd)) (fun _ _ _ _ _ => vts_nil) (fun _ _ _ _ _ => (ve_callO k_is_whole (hr.mono (by decide)) (va_cons (vo_e (ve_var 2)) va_nil))))) va_nil))))))
  vs_nil)
theorem sc_check_whole : FnScope ["value"] ["value"] (defScope (top 20)) := ⟨rfl, rfl, rfl, by decide +kernel, rfl, by decide +kernel, by decide +kernel⟩
theorem ok_check_whole (T : Txt K mg) : Ok P w K mg base 2 "check_whole" (top 20) ["value"] [] fs_check_whole := by
  have S := sc_check_whole
  have k_is_whole := ok_is_whole (P := P) (w := w) (base := base) T
  refine vfnO (T.1 _ (List.mem_of_getElem? (i := 10) rfl)) S (fun _ _ _ _ _ _ us hl => match us, hl with | [_], _ => rfl) fun C cdv A outer s H E _ hr => ⟨b_check_whole, ?_, sem_check_whole⟩
  exact (vs_cons (v_if (vt_not (vt_val (ve_callO k_is_whole (hr.mono (by decide)) (va_cons (vo_e (ve_var 0)) va_nil))))
  (vs_cons v_never
  vs_nil)
  vs_nil)
  vs_nil)
theorem sc_made : FnScope ["order", "numbers"] ["order", "numbers"] (defScope (top 21)) := ⟨rfl, rfl, rfl, by decide +kernel, rfl, by decide +kernel, by decide +kernel⟩
theorem ok_made (T : Txt K mg) : Ok P w K mg base 4 "made" (top 21) ["order", "numbers"] [] fs_made := by
  have S := sc_made
  have k_reduced := ok_reduced (P := P) (w := w) (base := base) T
  refine vfnO (T.1 _ (List.mem_of_getElem? (i := 11) rfl)) S (fun _ _ _ _ _ _ us hl => match us, hl with | [_, _], _ => rfl) fun C cdv A outer s H E _ hr => ⟨b_made, ?_, sem_made⟩
  exact (vs_cons (v_ret (ve_tup (va_cons (vo_e (ve_var 0)) (va_cons (vo_e (ve_callO k_reduced (hr.mono (by decide)) (va_cons (vo_e (ve_var 1)) (va_cons (vo_e (ve_var 0)) va_nil)))) va_nil))))
  vs_nil)
theorem sc_is_nothing : FnScope ["number", "one"] ["number"] (defScope (top 22)) := ⟨rfl, rfl, rfl, by decide +kernel, rfl, by decide +kernel, by decide +kernel⟩
theorem ok_is_nothing (T : Txt K mg) : Ok P w K mg base 1 "is_nothing" (top 22) ["number"] [] fs_is_nothing := by
  have S := sc_is_nothing
  refine vfnO (T.1 _ (List.mem_of_getElem? (i := 12) rfl)) S (fun _ _ _ _ _ _ us hl => match us, hl with | [_], _ => rfl) fun C cdv A outer s H E _ hr => ⟨b_is_nothing, ?_, sem_is_nothing⟩
  have hu := VL.hu_of hr
  exact (vs_cons (v_ret (ve_cmp (or_eq hu) (vo_e (ve_lc (own := [("one", 1)]) rfl S.nd (blkOk_by (by kernel_rfl)) (vi_seq (ve_ix (vo_var 0) (vo_e ve_int))) (fun _ _ _ _ _ => (vg_name (i := 1) S.nd)) (fun _ _ _ _ _ => (vts_one (vt_cmp' (or_ne hu) (vo_var 1) (vo_e ve_int)))) (fun _ _ _ _ _ => (ve_var 1)))) (vo_e (ve_lst va_nil))))
  vs_nil)
theorem sc_is_slots : FnScope ["value"] ["value"] (defScope (top 27)) := ⟨rfl, rfl, rfl, by decide +kernel, rfl, by decide +kernel, by decide +kernel⟩
theorem ok_is_slots (T : Txt K mg) : Ok P w K mg base 3 "is_slots" (top 27) ["value"] [] fs_is_slots := by
  have S := sc_is_slots
  have k_is_between := ok_is_between (P := P) (w := w) (base := base) T
  refine vfnO (T.1 _ (List.mem_of_getElem? (i := 13) rfl)) S (fun _ _ _ _ _ _ us hl => match us, hl with | [_], _ => rfl) fun C cdv A outer s H E _ hr => ⟨b_is_slots, ?_, sem_is_slots⟩
  exact (vs_cons (v_ret (ve_callO k_is_between (hr.mono (by decide)) (va_cons (vo_e (ve_var 0)) (va_cons (vo_e (ve_gint (T.2.2.1 _ (List.mem_of_getElem? (i := 1) rfl)))) (va_cons (vo_e (ve_gint (T.2.2.1 _ (List.mem_of_getElem? (i := 0) rfl)))) va_nil)))))
  vs_nil)
theorem sc_is_row : FnScope ["value"] ["value"] (defScope (top 28)) := ⟨rfl, rfl, rfl, by decide +kernel, rfl, by decide +kernel, by decide +kernel⟩
theorem ok_is_row (T : Txt K mg) : Ok P w K mg base 4 "is_row" (top 28) ["value"] [] fs_is_row := by
  have S := sc_is_row
  have k_are_wholes := ok_are_wholes (P := P) (w := w) (base := base) T
  have k_is_slots := ok_is_slots (P := P) (w := w) (base := base) T
  refine vfnO (T.1 _ (List.mem_of_getElem? (i := 14) rfl)) S (fun _ _ _ _ _ _ us hl => match us, hl with | [_], _ => rfl) fun C cdv A outer s H E _ hr => ⟨b_is_row, ?_, sem_is_row⟩
  exact (vs_cons (v_ret (ve_and (ve_isi .tup (T.2.1 _ (List.mem_of_getElem? (i := 7) rfl)) (T.2.1 _ (List.mem_of_getElem? (i := 6) rfl)) (vo_var 0)) (ve_and (ve_callO k_is_slots (hr.mono (by decide)) (va_cons (vo_e (ve_blt br_len (T.2.1 _ (List.mem_of_getElem? (i := 0) rfl)) (va_cons (vo_var 0) va_nil))) va_nil)) (ve_one (ve_callO k_are_wholes (hr.mono (by decide)) (va_cons (vo_e (ve_var 0)) (va_cons (vo_e (ve_blt br_len (T.2.1 _ (List.mem_of_getElem? (i := 0) rfl)) (va_cons (vo_var 0) va_nil))) va_nil)))))))
  vs_nil)
theorem sc_is_phase : FnScope ["value"] ["value"] (defScope (top 29)) := ⟨rfl, rfl, rfl, by decide +kernel, rfl, by decide +kernel, by decide +kernel⟩
theorem ok_is_phase (T : Txt K mg) : Ok P w K mg base 5 "is_phase" (top 29) ["value"] [] fs_is_phase := by
  have S := sc_is_phase
  have k_is_row := ok_is_row (P := P) (w := w) (base := base) T
  refine vfnO (T.1 _ (List.mem_of_getElem? (i := 15) rfl)) S (fun _ _ _ _ _ _ us hl => match us, hl with | [_], _ => rfl) fun C cdv A outer s H E _ hr => ⟨b_is_phase, ?_, sem_is_phase⟩
  have hu := VL.hu_of hr
  exact (vs_cons (v_ret (ve_and (ve_callO k_is_row (hr.mono (by decide)) (va_cons (vo_e (ve_var 0)) va_nil)) (ve_one (ve_cmp (or_eq hu) (vo_e (ve_blt (br_sum rfl) (T.2.1 _ (List.mem_of_getElem? (i := 11) rfl)) (va_cons (vo_var 0) va_nil))) (vo_e ve_int)))))
  vs_nil)
theorem sc_check_winding : FnScope ["value", "index", "row"] ["value"] (defScope (top 30)) := ⟨rfl, rfl, rfl, by decide +kernel, rfl, by decide +kernel, by decide +kernel⟩
theorem ok_check_winding (T : Txt K mg) : Ok P w K mg base 6 "check_winding" (top 30) ["value"] [] fs_check_winding := by
  have S := sc_check_winding
  have k_is_phase := ok_is_phase (P := P) (w := w) (base := base) T
  refine vfnO (T.1 _ (List.mem_of_getElem? (i := 16) rfl)) S (fun _ _ _ _ _ _ us hl => match us, hl with | [_], _ => rfl) fun C cdv A outer s H E _ hr => ⟨b_check_winding, ?_, sem_check_winding⟩
  have hu := VL.hu_of hr
  exact (vs_cons (v_if (VW.vt (vw_or (vt_not (vt_val (ve_isi .tup (T.2.1 _ (List.mem_of_getElem? (i := 7) rfl)) (T.2.1 _ (List.mem_of_getElem? (i := 6) rfl)) (vo_var 0)))) (vw_or1 (vt_cmp' (or_eq hu) (vo_var 0) (vo_e (ve_tup va_nil))))))
  (vs_cons v_never
  vs_nil)
  vs_nil)
  (vs_cons (v_for PassesOwn.never rfl (vi_enum (T.2.1 _ (List.mem_of_getElem? (i := 2) rfl)) (va_cons (vo_e (ve_var 0)) va_nil)) (vg_tup rfl (vgs_cons (vg_name (i := 1) S.nd) (vgs_cons (vg_name (i := 2) S.nd) vgs_nil)))
  (vs_cons (v_if (VW.vt (vw_or (vt_cmp' (or_eq hu) (vo_var 1) (vo_e (ve_gint (T.2.2.1 _ (List.mem_of_getElem? (i := 2) rfl))))) (vw_or (vt_not (vt_val (ve_callO k_is_phase (hr.mono (by decide)) (va_cons (vo_e (ve_var 2)) va_nil)))) (vw_or1 (vt_cmp' (or_ne hu) (vo_e (ve_blt br_len (T.2.1 _ (List.mem_of_getElem? (i := 0) rfl)) (va_cons (vo_var 2) va_nil))) (vo_e (ve_blt br_len (T.2.1 _ (List.mem_of_getElem? (i := 0) rfl)) (va_cons (vo_e (ve_ix (vo_var 0) (vo_e ve_int))) va_nil))))))))
  (vs_cons v_never
  vs_nil)
  vs_nil)
  vs_nil))
  vs_nil))
theorem sc_order_at : FnScope ["slots", "harmonic"] ["slots", "harmonic"] (defScope (top 32)) := ⟨rfl, rfl, rfl, by decide +kernel, rfl, by decide +kernel, by decide +kernel⟩
theorem ok_order_at (T : Txt K mg) : Ok P w K mg base 1 "order_at" (top 32) ["slots", "harmonic"] [] fs_order_at := by
  have S := sc_order_at
  refine vfnO (T.1 _ (List.mem_of_getElem? (i := 17) rfl)) S (fun _ _ _ _ _ _ us hl => match us, hl with | [_, _], _ => rfl) fun C cdv A outer s H E _ hr => ⟨b_order_at, ?_, sem_order_at⟩
  exact (vs_cons (v_ret (ve_op or_div (vo_var 0) (vo_e (ve_bfun br_gcd T.2.2.2 (va_cons (vo_var 1) (va_cons (vo_var 0) va_nil))))))
  vs_nil)
theorem sc_has_order : FnScope ["row", "order", "rest", "number"] ["row", "order"] (defScope (top 33)) := ⟨rfl, rfl, rfl, by decide +kernel, rfl, by decide +kernel, by decide +kernel⟩
theorem ok_has_order (T : Txt K mg) : Ok P w K mg base 3 "has_order" (top 33) ["row", "order"] [] fs_has_order := by
  have S := sc_has_order
  have k_poly_parted := ok_poly_parted (P := P) (w := w) (base := base) T
  have k_polynomial_of_order := ok_polynomial_of_order (P := P) (w := w) (base := base) T
  refine vfnO (T.1 _ (List.mem_of_getElem? (i := 18) rfl)) S (fun _ _ _ _ _ _ us hl => match us, hl with | [_, _], _ => rfl) fun C cdv A outer s H E _ hr => ⟨b_has_order, ?_, sem_has_order⟩
  have hu := VL.hu_of hr
  exact (vs_cons (v_set (i := 2) S.nd (ve_ix (vo_e (ve_callO k_poly_parted (hr.mono (by decide)) (va_cons (vo_e (ve_bty br_list (T.2.1 _ (List.mem_of_getElem? (i := 4) rfl)) (va_cons (vo_var 0) va_nil))) (va_cons (vo_e (ve_callO k_polynomial_of_order (hr.mono (by decide)) (va_cons (vo_e (ve_var 1)) va_nil))) va_nil)))) (vo_e ve_int)))
  (vs_cons (v_ret (ve_cmp (or_ne hu) (vo_e (ve_lc (own := [("number", 3)]) rfl S.nd (blkOk_by (by kernel_rfl)) (vi_seq (ve_var 2)) (fun _ _ _ _ _ => (vg_name (i := 3) S.nd)) (fun _ _ _ _ _ => (vts_one (vt_cmp' (or_ne hu) (vo_var 3) (vo_e ve_int)))) (fun _ _ _ _ _ => (ve_var 3)))) (vo_e (ve_lst va_nil))))
  vs_nil))
theorem sc_multiplied : FnScope ["point", "other", "low"] ["point", "other"] (defScope (top 35)) := ⟨rfl, rfl, rfl, by decide +kernel, rfl, by decide +kernel, by decide +kernel⟩
theorem ok_multiplied (T : Txt K mg) : Ok P w K mg base 1 "multiplied" (top 35) ["point", "other"] [] fs_multiplied := by
  have S := sc_multiplied
  refine vfnO (T.1 _ (List.mem_of_getElem? (i := 19) rfl)) S (fun _ _ _ _ _ _ us hl => match us, hl with | [_, _], _ => rfl) fun C cdv A outer s H E _ hr => ⟨b_multiplied, ?_, sem_multiplied⟩
  exact (vs_cons (v_set (i := 2) S.nd (ve_op or_mul (vo_e (ve_ix (vo_var 0) (vo_e ve_int))) (vo_e (ve_ix (vo_var 1) (vo_e ve_int)))))
  (vs_cons (v_ret (ve_tup (va_cons (vo_e (ve_op or_sub (vo_e (ve_op or_mul (vo_e (ve_ix (vo_var 0) (vo_e ve_int))) (vo_e (ve_ix (vo_var 1) (vo_e ve_int))))) (vo_var 2))) (va_cons (vo_e (ve_op or_sub (vo_e (ve_op or_add (vo_e (ve_op or_mul (vo_e (ve_ix (vo_var 0) (vo_e ve_int))) (vo_e (ve_ix (vo_var 1) (vo_e ve_int))))) (vo_e (ve_op or_mul (vo_e (ve_ix (vo_var 0) (vo_e ve_int))) (vo_e (ve_ix (vo_var 1) (vo_e ve_int))))))) (vo_var 2))) va_nil))))
  vs_nil))
theorem sc_led_round : FnScope ["point", "sixths", "_", "first", "second"] ["point", "sixths"] (defScope (top 36)) := ⟨rfl, rfl, rfl, by decide +kernel, rfl, by decide +kernel, by decide +kernel⟩
theorem ok_led_round (T : Txt K mg) : Ok P w K mg base 1 "led_round" (top 36) ["point", "sixths"] [] fs_led_round := by
  have S := sc_led_round
  refine vfnO (T.1 _ (List.mem_of_getElem? (i := 20) rfl)) S (fun _ _ _ _ _ _ us hl => match us, hl with | [_, _], _ => rfl) fun C cdv A outer s H E _ hr => ⟨b_led_round, ?_, sem_led_round⟩
  exact (vs_cons (v_asg (ve_var 0) (vg_tup rfl (vgs_cons (vg_name (i := 3) S.nd) (vgs_cons (vg_name (i := 4) S.nd) vgs_nil))))
  (vs_cons (v_for PassesOwn.never rfl (vi_range1 (T.2.1 _ (List.mem_of_getElem? (i := 1) rfl)) (va_cons (vo_e (ve_op or_mod (vo_var 1) (vo_e ve_int))) va_nil)) (vg_name (i := 2) S.nd)
  (vs_cons (v_par2 (i := 3) (j := 4) rfl S.nd (vf_cons (ve_op or_sub (vo_var 3) (vo_var 4)) (vf_cons (ve_var 3) vf_nil)))
  vs_nil))
  (vs_cons (v_ret (ve_tup (va_cons (vo_e (ve_var 3)) (va_cons (vo_e (ve_var 4)) va_nil))))
  vs_nil)))
theorem sc_norm_in : FnScope ["point"] ["point"] (defScope (top 37)) := ⟨rfl, rfl, rfl, by decide +kernel, rfl, by decide +kernel, by decide +kernel⟩
theorem ok_norm_in (T : Txt K mg) : Ok P w K mg base 1 "norm_in" (top 37) ["point"] [] fs_norm_in := by
  have S := sc_norm_in
  refine vfnO (T.1 _ (List.mem_of_getElem? (i := 21) rfl)) S (fun _ _ _ _ _ _ us hl => match us, hl with | [_], _ => rfl) fun C cdv A outer s H E _ hr => ⟨b_norm_in, ?_, sem_norm_in⟩
  exact (vs_cons (v_ret (ve_op or_add (vo_e (ve_op or_sub (vo_e (ve_op or_mul (vo_e (ve_ix (vo_var 0) (vo_e ve_int))) (vo_e (ve_ix (vo_var 0) (vo_e ve_int))))) (vo_e (ve_op or_mul (vo_e (ve_ix (vo_var 0) (vo_e ve_int))) (vo_e (ve_ix (vo_var 0) (vo_e ve_int))))))) (vo_e (ve_op or_mul (vo_e (ve_ix (vo_var 0) (vo_e ve_int))) (vo_e (ve_ix (vo_var 0) (vo_e ve_int)))))))
  vs_nil)
theorem sc_check_three : FnScope ["winding"] ["winding"] (defScope (top 40)) := ⟨rfl, rfl, rfl, by decide +kernel, rfl, by decide +kernel, by decide +kernel⟩
theorem ok_check_three (T : Txt K mg) : Ok P w K mg base 1 "check_three" (top 40) ["winding"] [] fs_check_three := by
  have S := sc_check_three
  refine vfnO (T.1 _ (List.mem_of_getElem? (i := 22) rfl)) S (fun _ _ _ _ _ _ us hl => match us, hl with | [_], _ => rfl) fun C cdv A outer s H E _ hr => ⟨b_check_three, ?_, sem_check_three⟩
  have hu := VL.hu_of hr
  exact (vs_cons (v_if (vt_cmp' (or_ne hu) (vo_e (ve_blt br_len (T.2.1 _ (List.mem_of_getElem? (i := 0) rfl)) (va_cons (vo_var 0) va_nil))) (vo_e (ve_gint (T.2.2.1 _ (List.mem_of_getElem? (i := 3) rfl)))))
  (vs_cons v_never
  vs_nil)
  vs_nil)
  vs_nil)
theorem sc_check_three_phases : FnScope ["winding"] ["winding"] (defScope (top 41)) := ⟨rfl, rfl, rfl, by decide +kernel, rfl, by decide +kernel, by decide +kernel⟩
theorem ok_check_three_phases (T : Txt K mg) : Ok P w K mg base 7 "check_three_phases" (top 41) ["winding"] [] fs_check_three_phases := by
  have S := sc_check_three_phases
  have k_check_three := ok_check_three (P := P) (w := w) (base := base) T
  have k_check_winding := ok_check_winding (P := P) (w := w) (base := base) T
  refine vfnO (T.1 _ (List.mem_of_getElem? (i := 23) rfl)) S (fun _ _ _ _ _ _ us hl => match us, hl with | [_], _ => rfl) fun C cdv A outer s H E _ hr => ⟨b_check_three_phases, ?_, sem_check_three_phases⟩
  exact (vs_cons (v_expr (ve_callO k_check_winding (hr.mono (by decide)) (va_cons (vo_e (ve_var 0)) va_nil)))
  (vs_cons (v_expr (ve_callO k_check_three (hr.mono (by decide)) (va_cons (vo_e (ve_var 0)) va_nil)))
  vs_nil))
theorem sc_points_of : FnScope ["winding", "one", "two", "three"] ["winding"] (defScope (top 42)) := ⟨rfl, rfl, rfl, by decide +kernel, rfl, by decide +kernel, by decide +kernel⟩
theorem ok_points_of (T : Txt K mg) : Ok P w K mg base 1 "points_of" (top 42) ["winding"] [] fs_points_of := by
  have S := sc_points_of
  refine vfnO (T.1 _ (List.mem_of_getElem? (i := 24) rfl)) S (fun _ _ _ _ _ _ us hl => match us, hl with | [_], _ => rfl) fun C cdv A outer s H E _ hr => ⟨b_points_of, ?_, sem_points_of⟩
  exact (vs_cons (v_ret (ve_lc (own := [("one", 1), ("two", 2), ("three", 3)]) rfl S.nd (blkOk_by (by kernel_rfl)) (vi_zip3 (T.2.1 _ (List.mem_of_getElem? (i := 5) rfl)) (va_cons (vo_e (ve_ix (vo_var 0) (vo_e ve_int))) (va_cons (vo_e (ve_ix (vo_var 0) (vo_e ve_int))) (va_cons (vo_e (ve_ix (vo_var 0) (vo_e ve_int))) va_nil)))) (fun _ _ _ _ _ => (vg_tup rfl (vgs_cons (vg_name (i := 1) S.nd) (vgs_cons (vg_name (i := 2) S.nd) (vgs_cons (vg_name (i := 3) S.nd) vgs_nil))))) (fun _ _ _ _ _ => vts_nil) (fun _ _ _ _ _ => (ve_tup (va_cons (vo_e (ve_op or_sub (vo_var 1) (vo_var 2))) (va_cons (vo_e (ve_op or_sub (vo_var 3) (vo_var 2))) va_nil))))))
  vs_nil)
theorem sc_corners_of : FnScope ["winding", "point", "first", "second", "found"] ["winding"] (defScope (top 43)) := ⟨rfl, rfl, rfl, by decide +kernel, rfl, by decide +kernel, by decide +kernel⟩
theorem ok_corners_of (T : Txt K mg) : Ok P w K mg base 2 "corners_of" (top 43) ["winding"] [] fs_corners_of := by
  have S := sc_corners_of
  have k_points_of := ok_points_of (P := P) (w := w) (base := base) T
  refine vfnO (T.1 _ (List.mem_of_getElem? (i := 25) rfl)) S (fun _ _ _ _ _ _ us hl => match us, hl with | [_], _ => rfl) fun C cdv A outer s H E _ hr => ⟨b_corners_of, ?_, sem_corners_of⟩
  exact (vs_cons (v_par3 (i := 2) (j := 3) (l := 4) rfl S.nd (vf_cons ve_int (vf_cons ve_int (vf_cons (ve_lst va_nil) vf_nil))))
  (vs_cons (v_for PassesOwn.never rfl (vi_seq (ve_callO k_points_of (hr.mono (by decide)) (va_cons (vo_e (ve_var 0)) va_nil))) (vg_name (i := 1) S.nd)
  (vs_cons (v_expr (ve_app (i := 4) (ve_tup (va_cons (vo_e (ve_var 2)) (va_cons (vo_e (ve_var 3)) va_nil)))))
  (vs_cons (v_par2 (i := 2) (j := 3) rfl S.nd (vf_cons (ve_op or_add (vo_var 2) (vo_e (ve_ix (vo_var 1) (vo_e ve_int)))) (vf_cons (ve_op or_add (vo_var 3) (vo_e (ve_ix (vo_var 1) (vo_e ve_int)))) vf_nil)))
  vs_nil)))
  (vs_cons (v_retv 4)
  vs_nil)))
theorem sc_polygon_of : FnScope ["winding", "row", "many", "first", "second", "point"] ["winding"] (defScope (top 44)) := ⟨rfl, rfl, rfl, by decide +kernel, rfl, by decide +kernel, by decide +kernel⟩
theorem ok_polygon_of (T : Txt K mg) : Ok P w K mg base 3 "polygon_of" (top 44) ["winding"] [] fs_polygon_of := by
  have S := sc_polygon_of
  have k_corners_of := ok_corners_of (P := P) (w := w) (base := base) T
  refine vfnO (T.1 _ (List.mem_of_getElem? (i := 26) rfl)) S (fun _ _ _ _ _ _ us hl => match us, hl with | [_], _ => rfl) fun C cdv A outer s H E _ hr => ⟨b_polygon_of, ?_, sem_polygon_of⟩
  exact (vs_cons (v_set (i := 1) S.nd (ve_callO k_corners_of (hr.mono (by decide)) (va_cons (vo_e (ve_var 0)) va_nil)))
  (vs_cons (v_set (i := 2) S.nd (ve_blt br_len (T.2.1 _ (List.mem_of_getElem? (i := 0) rfl)) (va_cons (vo_var 1) va_nil)))
  (vs_cons (v_parT (is := [3, 4]) rfl (vf_cons (ve_blt (br_sum rfl) (T.2.1 _ (List.mem_of_getElem? (i := 11) rfl)) (va_cons (vo_e (ve_lc (own := [("point", 5)]) rfl S.nd (blkOk_by (by kernel_rfl)) (vi_seq (ve_var 1)) (fun _ _ _ _ _ => (vg_name (i := 5) S.nd)) (fun _ _ _ _ _ => vts_nil) (fun _ _ _ _ _ => (ve_ix (vo_var 5) (vo_e ve_int))))) va_nil)) (vf_cons (ve_blt (br_sum rfl) (T.2.1 _ (List.mem_of_getElem? (i := 11) rfl)) (va_cons (vo_e (ve_lc (own := [("point", 5)]) rfl S.nd (blkOk_by (by kernel_rfl)) (vi_seq (ve_var 1)) (fun _ _ _ _ _ => (vg_name (i := 5) S.nd)) (fun _ _ _ _ _ => vts_nil) (fun _ _ _ _ _ => (ve_ix (vo_var 5) (vo_e ve_int))))) va_nil)) vf_nil)) (pgs_cons (pg_name S.nd rfl (by first | exact Or.inl rfl | exact Or.inr rfl) (by first | exact Or.inl rfl | exact Or.inr rfl)) (pgs_cons (pg_name S.nd rfl (by first | exact Or.inl rfl | exact Or.inr rfl) (by first | exact Or.inl rfl | exact Or.inr rfl)) pgs_nil)))
  (vs_cons (v_ret (ve_lc (own := [("point", 5)]) rfl S.nd (blkOk_by (by kernel_rfl)) (vi_seq (ve_var 1)) (fun _ _ _ _ _ => (vg_name (i := 5) S.nd)) (fun _ _ _ _ _ => vts_nil) (fun _ _ _ _ _ => (ve_tup (va_cons (vo_e (ve_op or_sub (vo_e (ve_op or_mul (vo_var 2) (vo_e (ve_ix (vo_var 5) (vo_e ve_int))))) (vo_var 3))) (va_cons (vo_e (ve_op or_sub (vo_e (ve_op or_mul (vo_var 2) (vo_e (ve_ix (vo_var 5) (vo_e ve_int))))) (vo_var 4))) va_nil))))))
  vs_nil))))
theorem sc_check_moment : FnScope ["value"] ["value"] (defScope (top 47)) := ⟨rfl, rfl, rfl, by decide +kernel, rfl, by decide +kernel, by decide +kernel⟩
theorem ok_check_moment (T : Txt K mg) : Ok P w K mg base 3 "check_moment" (top 47) ["value"] [] fs_check_moment := by
  have S := sc_check_moment
  have k_is_between := ok_is_between (P := P) (w := w) (base := base) T
  refine vfnO (T.1 _ (List.mem_of_getElem? (i := 27) rfl)) S (fun _ _ _ _ _ _ us hl => match us, hl with | [_], _ => rfl) fun C cdv A outer s H E _ hr => ⟨b_check_moment, ?_, sem_check_moment⟩
  exact (vs_cons (v_if (vt_not (vt_val (ve_callO k_is_between (hr.mono (by decide)) (va_cons (vo_e (ve_var 0)) (va_cons (vo_e ve_int) (va_cons (vo_e (ve_op or_sub (vo_e (ve_gint (T.2.2.1 _ (List.mem_of_getElem? (i := 4) rfl)))) (vo_e ve_int))) va_nil))))))
  (vs_cons v_never
  vs_nil)
  vs_nil)
  vs_nil)
theorem sc_seen_at : FnScope ["point", "moment", "first", "second"] ["point", "moment"] (defScope (top 48)) := ⟨rfl, rfl, rfl, by decide +kernel, rfl, by decide +kernel, by decide +kernel⟩
theorem ok_seen_at (T : Txt K mg) : Ok P w K mg base 2 "seen_at" (top 48) ["point", "moment"] [] fs_seen_at := by
  have S := sc_seen_at
  have k_led_round := ok_led_round (P := P) (w := w) (base := base) T
  refine vfnO (T.1 _ (List.mem_of_getElem? (i := 28) rfl)) S (fun _ _ _ _ _ _ us hl => match us, hl with | [_, _], _ => rfl) fun C cdv A outer s H E _ hr => ⟨b_seen_at, ?_, sem_seen_at⟩
  have hu := VL.hu_of hr
  exact (vs_cons (v_asg (ve_callO k_led_round (hr.mono (by decide)) (va_cons (vo_e (ve_var 0)) (va_cons (vo_e (ve_op or_div (vo_var 1) (vo_e ve_int))) va_nil))) (vg_tup rfl (vgs_cons (vg_name (i := 2) S.nd) (vgs_cons (vg_name (i := 3) S.nd) vgs_nil))))
  (vs_cons (v_ret (ve_if (vt_cmp' (or_eq hu) (vo_e (ve_op or_mod (vo_var 1) (vo_e ve_int))) (vo_e ve_int)) (ve_op or_sub (vo_e (ve_op or_mul (vo_e ve_int) (vo_var 2))) (vo_var 3)) (ve_op or_sub (vo_var 2) (vo_var 3))))
  vs_nil))
theorem sc_field_of : FnScope ["winding", "moment", "point"] ["winding", "moment"] (defScope (top 49)) := ⟨rfl, rfl, rfl, by decide +kernel, rfl, by decide +kernel, by decide +kernel⟩
theorem ok_field_of (T : Txt K mg) : Ok P w K mg base 4 "field_of" (top 49) ["winding", "moment"] [] fs_field_of := by
  have S := sc_field_of
  have k_polygon_of := ok_polygon_of (P := P) (w := w) (base := base) T
  have k_seen_at := ok_seen_at (P := P) (w := w) (base := base) T
  refine vfnO (T.1 _ (List.mem_of_getElem? (i := 29) rfl)) S (fun _ _ _ _ _ _ us hl => match us, hl with | [_, _], _ => rfl) fun C cdv A outer s H E _ hr => ⟨b_field_of, ?_, sem_field_of⟩
  exact (vs_cons (v_ret (ve_lc (own := [("point", 2)]) rfl S.nd (blkOk_by (by kernel_rfl)) (vi_seq (ve_callO k_polygon_of (hr.mono (by decide)) (va_cons (vo_e (ve_var 0)) va_nil))) (fun _ _ _ _ _ => (vg_name (i := 2) S.nd)) (fun _ _ _ _ _ => vts_nil) (fun _ _ _ _ _ => (ve_callO k_seen_at (hr.mono (by decide)) (va_cons (vo_e (ve_var 2)) (va_cons (vo_e (ve_var 1)) va_nil))))))
  vs_nil)
theorem sc_taken_by : FnScope ["points", "harmonic", "many", "order", "found", "place", "angle", "first", "second"] ["points", "harmonic"] (defScope (top 51)) := ⟨rfl, rfl, rfl, by decide +kernel, rfl, by decide +kernel, by decide +kernel⟩
theorem ok_taken_by (T : Txt K mg) : Ok P w K mg base 5 "taken_by" (top 51) ["points", "harmonic"] [] fs_taken_by := by
  have S := sc_taken_by
  have k_made := ok_made (P := P) (w := w) (base := base) T
  refine vfnO (T.1 _ (List.mem_of_getElem? (i := 30) rfl)) S (fun _ _ _ _ _ _ us hl => match us, hl with | [_, _], _ => rfl) fun C cdv A outer s H E _ hr => ⟨b_taken_by, ?_, sem_taken_by⟩
  have hu := VL.hu_of hr
  exact (vs_cons (v_set (i := 2) S.nd (ve_blt br_len (T.2.1 _ (List.mem_of_getElem? (i := 0) rfl)) (va_cons (vo_var 0) va_nil)))
  (vs_cons (v_set (i := 3) S.nd (ve_if (vt_cmp' (or_eq hu) (vo_e (ve_op or_mod (vo_var 2) (vo_e (ve_gint (T.2.2.1 _ (List.mem_of_getElem? (i := 3) rfl)))))) (vo_e ve_int)) (ve_var 2) (ve_op or_mul (vo_e (ve_gint (T.2.2.1 _ (List.mem_of_getElem? (i := 3) rfl)))) (vo_var 2))))
  (vs_cons (v_set (i := 4) S.nd (ve_op or_mul (vo_e (ve_lst (va_cons (vo_e ve_int) va_nil))) (vo_var 3)))
  (vs_cons (v_for PassesOwn.never rfl (vi_enum (T.2.1 _ (List.mem_of_getElem? (i := 2) rfl)) (va_cons (vo_e (ve_var 0)) va_nil)) (vg_tup rfl (vgs_cons (vg_name (i := 5) S.nd) (vgs_cons (vg_tup rfl (vgs_cons (vg_name (i := 7) S.nd) (vgs_cons (vg_name (i := 8) S.nd) vgs_nil))) vgs_nil)))
  (vs_cons (v_set (i := 6) S.nd (ve_op or_mod (vo_e (ve_op or_mul (vo_e (ve_op or_mul (vo_e (ve_op or_div (vo_var 3) (vo_var 2))) (vo_var 1))) (vo_var 5))) (vo_var 3)))
  (vs_cons (v_asg (ve_op or_add (vo_e (ve_ix (vo_var 4) (vo_var 6))) (vo_var 7)) (vg_subN (i := 4) (ve_var 6)))
  (vs_cons (v_set (i := 6) S.nd (ve_op or_mod (vo_e (ve_op or_add (vo_var 6) (vo_e (ve_op or_div (vo_var 3) (vo_e (ve_gint (T.2.2.1 _ (List.mem_of_getElem? (i := 3) rfl)))))))) (vo_var 3)))
  (vs_cons (v_asg (ve_op or_add (vo_e (ve_ix (vo_var 4) (vo_var 6))) (vo_var 8)) (vg_subN (i := 4) (ve_var 6)))
  vs_nil)))))
  (vs_cons (v_ret (ve_callO k_made (hr.mono (by decide)) (va_cons (vo_e (ve_var 3)) (va_cons (vo_e (ve_var 4)) va_nil))))
  vs_nil)))))
theorem sc_norms_of : FnScope ["winding", "point"] ["winding"] (defScope (top 53)) := ⟨rfl, rfl, rfl, by decide +kernel, rfl, by decide +kernel, by decide +kernel⟩
theorem ok_norms_of (T : Txt K mg) : Ok P w K mg base 4 "norms_of" (top 53) ["winding"] [] fs_norms_of := by
  have S := sc_norms_of
  have k_polygon_of := ok_polygon_of (P := P) (w := w) (base := base) T
  have k_norm_in := ok_norm_in (P := P) (w := w) (base := base) T
  refine vfnO (T.1 _ (List.mem_of_getElem? (i := 31) rfl)) S (fun _ _ _ _ _ _ us hl => match us, hl with | [_], _ => rfl) fun C cdv A outer s H E _ hr => ⟨b_norms_of, ?_, sem_norms_of⟩
  exact (vs_cons (v_ret (ve_lc (own := [("point", 1)]) rfl S.nd (blkOk_by (by kernel_rfl)) (vi_seq (ve_callO k_polygon_of (hr.mono (by decide)) (va_cons (vo_e (ve_var 0)) va_nil))) (fun _ _ _ _ _ => (vg_name (i := 1) S.nd)) (fun _ _ _ _ _ => vts_nil) (fun _ _ _ _ _ => (ve_callO k_norm_in (hr.mono (by decide)) (va_cons (vo_e (ve_var 1)) va_nil)))))
  vs_nil)
theorem sc_squares_of : FnScope ["winding", "point"] ["winding"] (defScope (top 54)) := ⟨rfl, rfl, rfl, by decide +kernel, rfl, by decide +kernel, by decide +kernel⟩
theorem ok_squares_of (T : Txt K mg) : Ok P w K mg base 4 "squares_of" (top 54) ["winding"] [] fs_squares_of := by
  have S := sc_squares_of
  have k_polygon_of := ok_polygon_of (P := P) (w := w) (base := base) T
  have k_multiplied := ok_multiplied (P := P) (w := w) (base := base) T
  refine vfnO (T.1 _ (List.mem_of_getElem? (i := 32) rfl)) S (fun _ _ _ _ _ _ us hl => match us, hl with | [_], _ => rfl) fun C cdv A outer s H E _ hr => ⟨b_squares_of, ?_, sem_squares_of⟩
  exact (vs_cons (v_ret (ve_lc (own := [("point", 1)]) rfl S.nd (blkOk_by (by kernel_rfl)) (vi_seq (ve_callO k_polygon_of (hr.mono (by decide)) (va_cons (vo_e (ve_var 0)) va_nil))) (fun _ _ _ _ _ => (vg_name (i := 1) S.nd)) (fun _ _ _ _ _ => vts_nil) (fun _ _ _ _ _ => (ve_callO k_multiplied (hr.mono (by decide)) (va_cons (vo_e (ve_var 1)) (va_cons (vo_e (ve_var 1)) va_nil))))))
  vs_nil)
theorem sc_can_reach : FnScope ["slots", "lobes"] ["slots", "lobes"] (defScope (top 55)) := ⟨rfl, rfl, rfl, by decide +kernel, rfl, by decide +kernel, by decide +kernel⟩
theorem ok_can_reach (T : Txt K mg) : Ok P w K mg base 1 "can_reach" (top 55) ["slots", "lobes"] [] fs_can_reach := by
  have S := sc_can_reach
  refine vfnO (T.1 _ (List.mem_of_getElem? (i := 33) rfl)) S (fun _ _ _ _ _ _ us hl => match us, hl with | [_, _], _ => rfl) fun C cdv A outer s H E _ hr => ⟨b_can_reach, ?_, sem_can_reach⟩
  have hu := VL.hu_of hr
  exact (vs_cons (v_ret (ve_or (ve_cmp (or_eq hu) (vo_var 1) (vo_e ve_int)) (ve_one (ve_cmp (or_ne hu) (vo_e (ve_op or_mod (vo_var 1) (vo_var 0))) (vo_e ve_int)))))
  vs_nil)
theorem sc_stands : FnScope ["winding", "lobes", "slots"] ["winding", "lobes"] (defScope (top 56)) := ⟨rfl, rfl, rfl, by decide +kernel, rfl, by decide +kernel, by decide +kernel⟩
theorem ok_stands (T : Txt K mg) : Ok P w K mg base 5 "stands" (top 56) ["winding", "lobes"] [] fs_stands := by
  have S := sc_stands
  have k_has_order := ok_has_order (P := P) (w := w) (base := base) T
  have k_order_at := ok_order_at (P := P) (w := w) (base := base) T
  have k_norms_of := ok_norms_of (P := P) (w := w) (base := base) T
  have k_can_reach := ok_can_reach (P := P) (w := w) (base := base) T
  refine vfnO (T.1 _ (List.mem_of_getElem? (i := 34) rfl)) S (fun _ _ _ _ _ _ us hl => match us, hl with | [_, _], _ => rfl) fun C cdv A outer s H E _ hr => ⟨b_stands, ?_, sem_stands⟩
  exact (vs_cons (v_set (i := 2) S.nd (ve_blt br_len (T.2.1 _ (List.mem_of_getElem? (i := 0) rfl)) (va_cons (vo_e (ve_ix (vo_var 0) (vo_e ve_int))) va_nil)))
  (vs_cons (v_ret (ve_and (ve_callO k_can_reach (hr.mono (by decide)) (va_cons (vo_e (ve_var 2)) (va_cons (vo_e (ve_var 1)) va_nil))) (ve_one (ve_callO k_has_order (hr.mono (by decide)) (va_cons (vo_e (ve_callO k_norms_of (hr.mono (by decide)) (va_cons (vo_e (ve_var 0)) va_nil))) (va_cons (vo_e (ve_callO k_order_at (hr.mono (by decide)) (va_cons (vo_e (ve_var 2)) (va_cons (vo_e (ve_var 1)) va_nil)))) va_nil))))))
  vs_nil))
theorem sc_beats : FnScope ["winding", "lobes"] ["winding", "lobes"] (defScope (top 57)) := ⟨rfl, rfl, rfl, by decide +kernel, rfl, by decide +kernel, by decide +kernel⟩
theorem ok_beats (T : Txt K mg) : Ok P w K mg base 6 "beats" (top 57) ["winding", "lobes"] [] fs_beats := by
  have S := sc_beats
  have k_is_nothing := ok_is_nothing (P := P) (w := w) (base := base) T
  have k_taken_by := ok_taken_by (P := P) (w := w) (base := base) T
  have k_squares_of := ok_squares_of (P := P) (w := w) (base := base) T
  have k_can_reach := ok_can_reach (P := P) (w := w) (base := base) T
  refine vfnO (T.1 _ (List.mem_of_getElem? (i := 35) rfl)) S (fun _ _ _ _ _ _ us hl => match us, hl with | [_, _], _ => rfl) fun C cdv A outer s H E _ hr => ⟨b_beats, ?_, sem_beats⟩
  exact (vs_cons (v_ret (ve_and (ve_callO k_can_reach (hr.mono (by decide)) (va_cons (vo_e (ve_blt br_len (T.2.1 _ (List.mem_of_getElem? (i := 0) rfl)) (va_cons (vo_e (ve_ix (vo_var 0) (vo_e ve_int))) va_nil))) (va_cons (vo_e (ve_var 1)) va_nil))) (ve_one (ve_not (ve_callO k_is_nothing (hr.mono (by decide)) (va_cons (vo_e (ve_callO k_taken_by (hr.mono (by decide)) (va_cons (vo_e (ve_callO k_squares_of (hr.mono (by decide)) (va_cons (vo_e (ve_var 0)) va_nil))) (va_cons (vo_e (ve_var 1)) va_nil)))) va_nil))))))
  vs_nil)
theorem sc_is_beating_one_sided : FnScope ["winding"] ["winding"] (defScope (top 58)) := ⟨rfl, rfl, rfl, by decide +kernel, rfl, by decide +kernel, by decide +kernel⟩
theorem ok_is_beating_one_sided (T : Txt K mg) : Ok P w K mg base 7 "is_beating_one_sided" (top 58) ["winding"] [] fs_is_beating_one_sided := by
  have S := sc_is_beating_one_sided
  have k_beats := ok_beats (P := P) (w := w) (base := base) T
  refine vfnO (T.1 _ (List.mem_of_getElem? (i := 36) rfl)) S (fun _ _ _ _ _ _ us hl => match us, hl with | [_], _ => rfl) fun C cdv A outer s H E _ hr => ⟨b_is_beating_one_sided, ?_, sem_is_beating_one_sided⟩
  exact (vs_cons (v_ret (ve_or (ve_callO k_beats (hr.mono (by decide)) (va_cons (vo_e (ve_var 0)) (va_cons (vo_e ve_int) va_nil))) (ve_one (ve_callO k_beats (hr.mono (by decide)) (va_cons (vo_e (ve_var 0)) (va_cons (vo_e (ve_neg (vo_e ve_int))) va_nil))))))
  vs_nil)
theorem sc_pulls_at : FnScope ["winding", "moment", "squares", "number"] ["winding", "moment"] (defScope (top 59)) := ⟨rfl, rfl, rfl, by decide +kernel, rfl, by decide +kernel, by decide +kernel⟩
theorem ok_pulls_at (T : Txt K mg) : Ok P w K mg base 5 "pulls_at" (top 59) ["winding", "moment"] [] fs_pulls_at := by
  have S := sc_pulls_at
  have k_has_order := ok_has_order (P := P) (w := w) (base := base) T
  have k_field_of := ok_field_of (P := P) (w := w) (base := base) T
  refine vfnO (T.1 _ (List.mem_of_getElem? (i := 37) rfl)) S (fun _ _ _ _ _ _ us hl => match us, hl with | [_, _], _ => rfl) fun C cdv A outer s H E _ hr => ⟨b_pulls_at, ?_, sem_pulls_at⟩
  exact (vs_cons (v_setLc (i := 2) (own := [("number", 3)]) rfl S.nd (blkOk_by (by kernel_rfl)) (vi_seq (ve_callO k_field_of (hr.mono (by decide)) (va_cons (vo_e (ve_var 0)) (va_cons (vo_e (ve_var 1)) va_nil)))) (fun _ _ _ _ _ => (vg_name (i := 3) S.nd)) (fun _ _ _ _ _ => vts_nil) (fun _ _ _ _ _ => (ve_op or_mul (vo_var 3) (vo_var 3))))
  (vs_cons (v_ret (ve_callO k_has_order (hr.mono (by decide)) (va_cons (vo_e (ve_var 2)) (va_cons (vo_e (ve_blt br_len (T.2.1 _ (List.mem_of_getElem? (i := 0) rfl)) (va_cons (vo_var 2) va_nil))) va_nil))))
  vs_nil))
theorem sc_has_standing : FnScope ["winding", "lobes"] ["winding", "lobes"] (defScope (top 60)) := ⟨rfl, rfl, rfl, by decide +kernel, rfl, by decide +kernel, by decide +kernel⟩
theorem ok_has_standing (T : Txt K mg) : Ok P w K mg base 7 "has_standing" (top 60) ["winding", "lobes"] [] fs_has_standing := by
  have S := sc_has_standing
  have k_stands := ok_stands (P := P) (w := w) (base := base) T
  have k_check_three := ok_check_three (P := P) (w := w) (base := base) T
  have k_check_whole := ok_check_whole (P := P) (w := w) (base := base) T
  have k_check_winding := ok_check_winding (P := P) (w := w) (base := base) T
  refine vfnO (T.1 _ (List.mem_of_getElem? (i := 38) rfl)) S (fun _ _ _ _ _ _ us hl => match us, hl with | [_, _], _ => rfl) fun C cdv A outer s H E _ hr => ⟨b_has_standing, ?_, sem_has_standing⟩
  exact (vs_cons (v_expr (ve_callO k_check_winding (hr.mono (by decide)) (va_cons (vo_e (ve_var 0)) va_nil)))
  (vs_cons (v_expr (ve_callO k_check_whole (hr.mono (by decide)) (va_cons (vo_e (ve_var 1)) va_nil)))
  (vs_cons (v_expr (ve_callO k_check_three (hr.mono (by decide)) (va_cons (vo_e (ve_var 0)) va_nil)))
  (vs_cons (v_ret (ve_callO k_stands (hr.mono (by decide)) (va_cons (vo_e (ve_var 0)) (va_cons (vo_e (ve_var 1)) va_nil))))
  vs_nil))))
theorem sc_has_beating : FnScope ["winding", "lobes"] ["winding", "lobes"] (defScope (top 61)) := ⟨rfl, rfl, rfl, by decide +kernel, rfl, by decide +kernel, by decide +kernel⟩
theorem ok_has_beating (T : Txt K mg) : Ok P w K mg base 7 "has_beating" (top 61) ["winding", "lobes"] [] fs_has_beating := by
  have S := sc_has_beating
  have k_beats := ok_beats (P := P) (w := w) (base := base) T
  have k_check_three := ok_check_three (P := P) (w := w) (base := base) T
  have k_check_whole := ok_check_whole (P := P) (w := w) (base := base) T
  have k_check_winding := ok_check_winding (P := P) (w := w) (base := base) T
  refine vfnO (T.1 _ (List.mem_of_getElem? (i := 39) rfl)) S (fun _ _ _ _ _ _ us hl => match us, hl with | [_, _], _ => rfl) fun C cdv A outer s H E _ hr => ⟨b_has_beating, ?_, sem_has_beating⟩
  exact (vs_cons (v_expr (ve_callO k_check_winding (hr.mono (by decide)) (va_cons (vo_e (ve_var 0)) va_nil)))
  (vs_cons (v_expr (ve_callO k_check_whole (hr.mono (by decide)) (va_cons (vo_e (ve_var 1)) va_nil)))
  (vs_cons (v_expr (ve_callO k_check_three (hr.mono (by decide)) (va_cons (vo_e (ve_var 0)) va_nil)))
  (vs_cons (v_ret (ve_callO k_beats (hr.mono (by decide)) (va_cons (vo_e (ve_var 0)) (va_cons (vo_e (ve_var 1)) va_nil))))
  vs_nil))))
theorem sc_pulls : FnScope ["winding"] ["winding"] (defScope (top 62)) := ⟨rfl, rfl, rfl, by decide +kernel, rfl, by decide +kernel, by decide +kernel⟩
theorem ok_pulls (T : Txt K mg) : OkG P w K mg base 8 "pulls" (top 62) ["winding"] [] fs_pulls := by
  have S := sc_pulls
  have k_is_beating_one_sided := ok_is_beating_one_sided (P := P) (w := w) (base := base) T
  have k_stands := ok_stands (P := P) (w := w) (base := base) T
  have k_check_three_phases := ok_check_three_phases (P := P) (w := w) (base := base) T
  refine vfnGO (T.1 _ (List.mem_of_getElem? (i := 40) rfl)) S (fun _ _ _ _ _ _ us hl => match us, hl with | [_], _ => rfl) fun C cdv A outer s H E _ gd hr => ⟨b_pulls, ?_, sem_pulls⟩
  exact (vs_cons (v_expr (ve_callO k_check_three_phases (hr.mono (by decide)) (va_cons (vo_e (ve_var 0)) va_nil)))
  (vs_cons (v_ret (ve_tup (va_cons (vo_e (ve_callO k_stands (hr.mono (by decide)) (va_cons (vo_e (ve_var 0)) (va_cons (vo_e ve_int) va_nil)))) (va_cons (vo_e (ve_callO k_is_beating_one_sided (hr.mono (by decide)) (va_cons (vo_e (ve_var 0)) va_nil))) va_nil))))
  vs_nil))
theorem sc_is_pulled_at : FnScope ["winding", "moment"] ["winding", "moment"] (defScope (top 63)) := ⟨rfl, rfl, rfl, by decide +kernel, rfl, by decide +kernel, by decide +kernel⟩
theorem ok_is_pulled_at (T : Txt K mg) : OkG P w K mg base 7 "is_pulled_at" (top 63) ["winding", "moment"] [] fs_is_pulled_at := by
  have S := sc_is_pulled_at
  have k_pulls_at := ok_pulls_at (P := P) (w := w) (base := base) T
  have k_check_three := ok_check_three (P := P) (w := w) (base := base) T
  have k_check_moment := ok_check_moment (P := P) (w := w) (base := base) T
  have k_check_winding := ok_check_winding (P := P) (w := w) (base := base) T
  refine vfnGO (T.1 _ (List.mem_of_getElem? (i := 41) rfl)) S (fun _ _ _ _ _ _ us hl => match us, hl with | [_, _], _ => rfl) fun C cdv A outer s H E _ gd hr => ⟨b_is_pulled_at, ?_, sem_is_pulled_at⟩
  exact (vs_cons (v_expr (ve_callO k_check_winding (hr.mono (by decide)) (va_cons (vo_e (ve_var 0)) va_nil)))
  (vs_cons (v_expr (ve_callO k_check_moment (hr.mono (by decide)) (va_cons (vo_e (ve_var 1)) va_nil)))
  (vs_cons (v_expr (ve_callO k_check_three (hr.mono (by decide)) (va_cons (vo_e (ve_var 0)) va_nil)))
  (vs_cons (v_ret (ve_callO k_pulls_at (hr.mono (by decide)) (va_cons (vo_e (ve_var 0)) (va_cons (vo_e (ve_var 1)) va_nil))))
  vs_nil))))
theorem sc_law_urn : FnScope ["script", "turn", "own", "stirred", "cell", "seed"] ["script", "turn"] (defScope (top 65)) := ⟨rfl, rfl, rfl, by decide +kernel, rfl, by decide +kernel, by decide +kernel⟩
theorem ok_law_urn (T : Txt K mg) : Ok P w K mg base 1 "_law_urn" (top 65) ["script", "turn"] [] fs_law_urn := by
  have S := sc_law_urn
  refine vfnO (T.1 _ (List.mem_of_getElem? (i := 42) rfl)) S (fun _ _ _ _ _ _ us hl => match us, hl with | [_, _], _ => rfl) fun C cdv A outer s H E _ hr => ⟨b_law_urn, ?_, sem_law_urn⟩
  exact (vs_cons (v_set (i := 2) S.nd (ve_if (vt_cmp' or_lt (vo_var 1) (vo_e (ve_blt br_len (T.2.1 _ (List.mem_of_getElem? (i := 0) rfl)) (va_cons (vo_var 0) va_nil)))) (ve_bty br_int (T.2.1 _ (List.mem_of_getElem? (i := 9) rfl)) (va_cons (vo_e (ve_ix (vo_var 0) (vo_var 1))) va_nil)) (ve_op or_add (vo_e (ve_op or_mul (vo_e ve_int) (vo_var 1))) (vo_e ve_int))))
  (vs_cons (v_set (i := 3) S.nd (ve_op or_add (vo_e ve_int) (vo_e (ve_op or_mul (vo_e ve_int) (vo_var 1)))))
  (vs_cons (v_for PassesOwn.never rfl (vi_seq (ve_sl (vo_var 0) vp_none (vp_some ve_int))) (vg_name (i := 4) S.nd)
  (vs_cons (v_set (i := 3) S.nd (ve_op or_mod (vo_e (ve_bty br_int (T.2.1 _ (List.mem_of_getElem? (i := 9) rfl)) (va_cons (vo_e (ve_op or_add (vo_e (ve_op or_add (vo_e (ve_op or_mul (vo_var 3) (vo_e ve_int))) (vo_e (ve_op or_mod (vo_e (ve_bty br_int (T.2.1 _ (List.mem_of_getElem? (i := 9) rfl)) (va_cons (vo_var 4) va_nil))) (vo_e ve_int))))) (vo_e ve_int))) va_nil))) (vo_e ve_int)))
  vs_nil))
  (vs_cons (v_set (i := 5) S.nd (ve_op or_mod (vo_e (ve_bty br_int (T.2.1 _ (List.mem_of_getElem? (i := 9) rfl)) (va_cons (vo_e (ve_op or_add (vo_e (ve_op or_mul (vo_var 3) (vo_e ve_int))) (vo_e (ve_op or_mul (vo_e (ve_op or_mod (vo_e (ve_bty br_int (T.2.1 _ (List.mem_of_getElem? (i := 9) rfl)) (va_cons (vo_var 2) va_nil))) (vo_e ve_int))) (vo_e ve_int))))) va_nil))) (vo_e ve_int)))
  (vs_cons (v_ret (ve_lst (va_cons (vo_e (ve_if (VW.vt (vw_or (vt_cmp' or_lt (vo_var 2) (vo_e ve_int)) (vw_or1 (vt_cmp' or_ge (vo_var 2) (vo_e (ve_op or_pow (vo_e ve_int) (vo_e ve_int))))))) (ve_blt br_abs (T.2.1 _ (List.mem_of_getElem? (i := 12) rfl)) (va_cons (vo_var 2) va_nil)) ve_int)) (va_cons (vo_e (ve_var 5)) (va_cons (vo_e ve_int) va_nil)))))
  vs_nil)))))
theorem sc_law_draw : FnScope ["urn", "many", "figure"] ["urn", "many"] (defScope (top 66)) := ⟨rfl, rfl, rfl, by decide +kernel, rfl, by decide +kernel, by decide +kernel⟩
theorem ok_law_draw (T : Txt K mg) : Ok P w K mg base 1 "_law_draw" (top 66) ["urn", "many"] [0] fs_law_draw := by
  have S := sc_law_draw
  refine vfnO (T.1 _ (List.mem_of_getElem? (i := 43) rfl)) S (fun _ _ _ _ _ _ us hl => match us, hl with | [_, _], _ => rfl) fun C cdv A outer s H E _ hr => ⟨b_law_draw, ?_, sem_law_draw⟩
  exact (vs_cons (v_if (vt_cmp' or_gt (vo_e (ve_ix (vo_var 0) (vo_e ve_int))) (vo_e ve_int))
  (vs_cons (v_asg (ve_blt br_divmod (T.2.1 _ (List.mem_of_getElem? (i := 13) rfl)) (va_cons (vo_e (ve_ix (vo_var 0) (vo_e ve_int))) (va_cons (vo_var 1) va_nil))) (vg_tup rfl (vgs_cons (vg_subN (i := 0) ve_int) (vgs_cons (vg_name (i := 2) S.nd) vgs_nil))))
  (vs_cons (v_retv 2)
  vs_nil))
  vs_nil)
  (vs_cons (v_asg (ve_op or_add (vo_e (ve_ix (vo_var 0) (vo_e ve_int))) (vo_e ve_int)) (vg_subN (i := 0) ve_int))
  (vs_cons (v_asg (ve_op or_mod (vo_e (ve_bty br_int (T.2.1 _ (List.mem_of_getElem? (i := 9) rfl)) (va_cons (vo_e (ve_op or_add (vo_e (ve_op or_add (vo_e (ve_op or_mul (vo_e (ve_ix (vo_var 0) (vo_e ve_int))) (vo_e ve_int))) (vo_e (ve_op or_mul (vo_e (ve_ix (vo_var 0) (vo_e ve_int))) (vo_e ve_int))))) (vo_e ve_int))) va_nil))) (vo_e ve_int)) (vg_subN (i := 0) ve_int))
  (vs_cons (v_ret (ve_op or_mod (vo_e (ve_bty br_int (T.2.1 _ (List.mem_of_getElem? (i := 9) rfl)) (va_cons (vo_e (ve_op or_div (vo_e (ve_op or_mod (vo_e (ve_bty br_int (T.2.1 _ (List.mem_of_getElem? (i := 9) rfl)) (va_cons (vo_e (ve_op or_mul (vo_e (ve_ix (vo_var 0) (vo_e ve_int))) (vo_e (ve_op or_add (vo_e (ve_op or_mod (vo_e (ve_bty br_int (T.2.1 _ (List.mem_of_getElem? (i := 9) rfl)) (va_cons (vo_e (ve_ix (vo_var 0) (vo_e ve_int))) va_nil))) (vo_e ve_int))) (vo_e ve_int))))) va_nil))) (vo_e ve_int))) (vo_e ve_int))) va_nil))) (vo_var 1)))
  vs_nil))))
theorem sc_law_pick : FnScope ["urn", "some"] ["urn", "some"] (defScope (top 67)) := ⟨rfl, rfl, rfl, by decide +kernel, rfl, by decide +kernel, by decide +kernel⟩
theorem ok_law_pick (T : Txt K mg) : Ok P w K mg base 2 "_law_pick" (top 67) ["urn", "some"] [0] fs_law_pick := by
  have S := sc_law_pick
  have k_law_draw := ok_law_draw (P := P) (w := w) (base := base) T
  refine vfnO (T.1 _ (List.mem_of_getElem? (i := 44) rfl)) S (fun _ _ _ _ _ _ us hl => match us, hl with | [_, _], _ => rfl) fun C cdv A outer s H E _ hr => ⟨b_law_pick, ?_, sem_law_pick⟩
  exact (vs_cons (v_ret (ve_ix (vo_var 1) (vo_e (ve_callO k_law_draw (hr.mono (by decide)) (va_cons (vo_var 0) (va_cons (vo_e (ve_blt br_len (T.2.1 _ (List.mem_of_getElem? (i := 0) rfl)) (va_cons (vo_var 1) va_nil))) va_nil))))))
  vs_nil)
theorem sc_law_turns : FnScope ["urn", "turns", "far"] ["urn"] (defScope (top 68)) := ⟨rfl, rfl, rfl, by decide +kernel, rfl, by decide +kernel, by decide +kernel⟩
theorem ok_law_turns (T : Txt K mg) : Ok P w K mg base 3 "_law_turns" (top 68) ["urn"] [0] fs_law_turns := by
  have S := sc_law_turns
  have k_law_draw := ok_law_draw (P := P) (w := w) (base := base) T
  have k_law_pick := ok_law_pick (P := P) (w := w) (base := base) T
  refine vfnO (T.1 _ (List.mem_of_getElem? (i := 45) rfl)) S (fun _ _ _ _ _ _ us hl => match us, hl with | [_], _ => rfl) fun C cdv A outer s H E _ hr => ⟨b_law_turns, ?_, sem_law_turns⟩
  have hu := VL.hu_of hr
  exact (vs_cons (v_set (i := 1) S.nd (ve_callO k_law_pick (hr.mono (by decide)) (va_cons (vo_var 0) (va_cons (vo_e (ve_lst (va_cons (vo_e ve_int) (va_cons (vo_e (ve_neg (vo_e ve_int))) (va_cons (vo_e ve_int) (va_cons (vo_e (ve_neg (vo_e ve_int))) (va_cons (vo_e ve_int) (va_cons (vo_e (ve_neg (vo_e ve_int))) va_nil)))))))) va_nil))))
  (vs_cons (v_if (vt_cmp' (or_eq hu) (vo_e (ve_callO k_law_draw (hr.mono (by decide)) (va_cons (vo_var 0) (va_cons (vo_e ve_int) va_nil)))) (vo_e ve_int))
  (vs_cons (v_set (i := 2) S.nd (ve_callO k_law_draw (hr.mono (by decide)) (va_cons (vo_var 0) (va_cons (vo_e (ve_op or_pow (vo_e ve_int) (vo_e ve_int))) va_nil))))
  (vs_cons (v_set (i := 1) S.nd (ve_op or_mul (vo_var 1) (vo_e (ve_op or_add (vo_e (ve_op or_add (vo_e (ve_op or_pow (vo_e ve_int) (vo_e ve_int))) (vo_e (ve_op or_mul (vo_var 2) (vo_e (ve_op or_pow (vo_e ve_int) (vo_e ve_int))))))) (vo_e (ve_callO k_law_draw (hr.mono (by decide)) (va_cons (vo_var 0) (va_cons (vo_e (ve_op or_pow (vo_e ve_int) (vo_e ve_int))) va_nil))))))))
  vs_nil))
  vs_nil)
  (vs_cons (v_retv 1)
  vs_nil)))
theorem sc_law_wired : FnScope ["urn", "slots", "least", "most", "row", "turn", "far", "at", "steps", "turns"] ["urn", "slots", "least", "most"] (defScope (top 69)) := ⟨rfl, rfl, rfl, by decide +kernel, rfl, by decide +kernel, by decide +kernel⟩
theorem ok_law_wired (T : Txt K mg) : Ok P w K mg base 4 "_law_wired" (top 69) ["urn", "slots", "least", "most"] [0] fs_law_wired := by
  have S := sc_law_wired
  have k_law_draw := ok_law_draw (P := P) (w := w) (base := base) T
  have k_law_turns := ok_law_turns (P := P) (w := w) (base := base) T
  refine vfnO (T.1 _ (List.mem_of_getElem? (i := 46) rfl)) S (fun _ _ _ _ _ _ us hl => match us, hl with | [_, _, _, _], _ => rfl) fun C cdv A outer s H E _ hr => ⟨b_law_wired, ?_, sem_law_wired⟩
  exact (vs_cons (v_set (i := 4) S.nd (ve_op or_mul (vo_e (ve_lst (va_cons (vo_e ve_int) va_nil))) (vo_var 1)))
  (vs_cons (v_for PassesOwn.never rfl (vi_range1 (T.2.1 _ (List.mem_of_getElem? (i := 1) rfl)) (va_cons (vo_e (ve_op or_add (vo_var 2) (vo_e (ve_callO k_law_draw (hr.mono (by decide)) (va_cons (vo_var 0) (va_cons (vo_e (ve_op or_sub (vo_e (ve_op or_add (vo_var 3) (vo_e ve_int))) (vo_var 2))) va_nil)))))) va_nil)) (vg_name (i := 5) S.nd)
  (vs_cons (v_par3 (i := 7) (j := 8) (l := 9) rfl S.nd (vf_cons (ve_callO k_law_draw (hr.mono (by decide)) (va_cons (vo_var 0) (va_cons (vo_e (ve_var 1)) va_nil))) (vf_cons (ve_op or_add (vo_e ve_int) (vo_e (ve_callO k_law_draw (hr.mono (by decide)) (va_cons (vo_var 0) (va_cons (vo_e (ve_op or_sub (vo_var 1) (vo_e ve_int))) va_nil))))) (vf_cons (ve_callO k_law_turns (hr.mono (by decide)) (va_cons (vo_var 0) va_nil)) vf_nil))))
  (vs_cons (v_set (i := 6) S.nd (ve_op or_mod (vo_e (ve_bty br_int (T.2.1 _ (List.mem_of_getElem? (i := 9) rfl)) (va_cons (vo_e (ve_op or_add (vo_var 7) (vo_var 8))) va_nil))) (vo_var 1)))
  (vs_cons (v_asg (ve_op or_add (vo_e (ve_ix (vo_var 4) (vo_var 7))) (vo_var 9)) (vg_subN (i := 4) (ve_var 7)))
  (vs_cons (v_asg (ve_op or_sub (vo_e (ve_ix (vo_var 4) (vo_var 6))) (vo_var 9)) (vg_subN (i := 4) (ve_var 6)))
  vs_nil)))))
  (vs_cons (v_retv 4)
  vs_nil)))
theorem sc_law_points : FnScope ["winding", "one", "two", "three"] ["winding"] (defScope (top 70)) := ⟨rfl, rfl, rfl, by decide +kernel, rfl, by decide +kernel, by decide +kernel⟩
theorem ok_law_points (T : Txt K mg) : Ok P w K mg base 1 "_law_points" (top 70) ["winding"] [] fs_law_points := by
  have S := sc_law_points
  refine vfnO (T.1 _ (List.mem_of_getElem? (i := 47) rfl)) S (fun _ _ _ _ _ _ us hl => match us, hl with | [_], _ => rfl) fun C cdv A outer s H E _ hr => ⟨b_law_points, ?_, sem_law_points⟩
  exact (vs_cons (v_ret (ve_lc (own := [("one", 1), ("two", 2), ("three", 3)]) rfl S.nd (blkOk_by (by kernel_rfl)) (vi_zip3 (T.2.1 _ (List.mem_of_getElem? (i := 5) rfl)) (va_cons (vo_e (ve_ix (vo_var 0) (vo_e ve_int))) (va_cons (vo_e (ve_ix (vo_var 0) (vo_e ve_int))) (va_cons (vo_e (ve_ix (vo_var 0) (vo_e ve_int))) va_nil)))) (fun _ _ _ _ _ => (vg_tup rfl (vgs_cons (vg_name (i := 1) S.nd) (vgs_cons (vg_name (i := 2) S.nd) (vgs_cons (vg_name (i := 3) S.nd) vgs_nil))))) (fun _ _ _ _ _ => vts_nil) (fun _ _ _ _ _ => (ve_tup (va_cons (vo_e (ve_op or_sub (vo_var 1) (vo_var 2))) (va_cons (vo_e (ve_op or_sub (vo_var 3) (vo_var 2))) va_nil))))))
  vs_nil)
theorem sc_law_sixths : FnScope ["point", "many", "found", "turn"] ["point", "many"] (defScope (top 71)) := ⟨rfl, rfl, rfl, by decide +kernel, rfl, by decide +kernel, by decide +kernel⟩
theorem ok_law_sixths (T : Txt K mg) : Ok P w K mg base 1 "_law_sixths" (top 71) ["point", "many"] [] fs_law_sixths := by
  have S := sc_law_sixths
  refine vfnO (T.1 _ (List.mem_of_getElem? (i := 48) rfl)) S (fun _ _ _ _ _ _ us hl => match us, hl with | [_, _], _ => rfl) fun C cdv A outer s H E _ hr => ⟨b_law_sixths, ?_, sem_law_sixths⟩
  exact (vs_cons (v_set (i := 2) S.nd (ve_var 0))
  (vs_cons (v_for PassesOwn.never rfl (vi_range1 (T.2.1 _ (List.mem_of_getElem? (i := 1) rfl)) (va_cons (vo_e (ve_op or_mod (vo_e (ve_bty br_int (T.2.1 _ (List.mem_of_getElem? (i := 9) rfl)) (va_cons (vo_var 1) va_nil))) (vo_e ve_int))) va_nil)) (vg_name (i := 3) S.nd)
  (vs_cons (v_set (i := 2) S.nd (ve_tup (va_cons (vo_e (ve_op or_sub (vo_e (ve_ix (vo_var 2) (vo_e ve_int))) (vo_e (ve_ix (vo_var 2) (vo_e ve_int))))) (va_cons (vo_e (ve_ix (vo_var 2) (vo_e ve_int))) va_nil))))
  vs_nil))
  (vs_cons (v_retv 2)
  vs_nil)))
theorem sc_law_norm : FnScope ["point"] ["point"] (defScope (top 72)) := ⟨rfl, rfl, rfl, by decide +kernel, rfl, by decide +kernel, by decide +kernel⟩
theorem ok_law_norm (T : Txt K mg) : Ok P w K mg base 1 "_law_norm" (top 72) ["point"] [] fs_law_norm := by
  have S := sc_law_norm
  refine vfnO (T.1 _ (List.mem_of_getElem? (i := 49) rfl)) S (fun _ _ _ _ _ _ us hl => match us, hl with | [_], _ => rfl) fun C cdv A outer s H E _ hr => ⟨b_law_norm, ?_, sem_law_norm⟩
  exact (vs_cons (v_ret (ve_op or_add (vo_e (ve_op or_sub (vo_e (ve_op or_mul (vo_e (ve_ix (vo_var 0) (vo_e ve_int))) (vo_e (ve_ix (vo_var 0) (vo_e ve_int))))) (vo_e (ve_op or_mul (vo_e (ve_ix (vo_var 0) (vo_e ve_int))) (vo_e (ve_ix (vo_var 0) (vo_e ve_int))))))) (vo_e (ve_op or_mul (vo_e (ve_ix (vo_var 0) (vo_e ve_int))) (vo_e (ve_ix (vo_var 0) (vo_e ve_int)))))))
  vs_nil)
theorem sc_law_times : FnScope ["one", "two"] ["one", "two"] (defScope (top 73)) := ⟨rfl, rfl, rfl, by decide +kernel, rfl, by decide +kernel, by decide +kernel⟩
theorem ok_law_times (T : Txt K mg) : Ok P w K mg base 1 "_law_times" (top 73) ["one", "two"] [] fs_law_times := by
  have S := sc_law_times
  refine vfnO (T.1 _ (List.mem_of_getElem? (i := 50) rfl)) S (fun _ _ _ _ _ _ us hl => match us, hl with | [_, _], _ => rfl) fun C cdv A outer s H E _ hr => ⟨b_law_times, ?_, sem_law_times⟩
  exact (vs_cons (v_ret (ve_tup (va_cons (vo_e (ve_op or_sub (vo_e (ve_op or_mul (vo_e (ve_ix (vo_var 0) (vo_e ve_int))) (vo_e (ve_ix (vo_var 1) (vo_e ve_int))))) (vo_e (ve_op or_mul (vo_e (ve_ix (vo_var 0) (vo_e ve_int))) (vo_e (ve_ix (vo_var 1) (vo_e ve_int))))))) (va_cons (vo_e (ve_op or_sub (vo_e (ve_op or_add (vo_e (ve_op or_mul (vo_e (ve_ix (vo_var 0) (vo_e ve_int))) (vo_e (ve_ix (vo_var 1) (vo_e ve_int))))) (vo_e (ve_op or_mul (vo_e (ve_ix (vo_var 0) (vo_e ve_int))) (vo_e (ve_ix (vo_var 1) (vo_e ve_int))))))) (vo_e (ve_op or_mul (vo_e (ve_ix (vo_var 0) (vo_e ve_int))) (vo_e (ve_ix (vo_var 1) (vo_e ve_int))))))) va_nil))))
  vs_nil)
theorem sc_law_polygon : FnScope ["points", "point", "slots", "corners", "here", "one", "two", "corner"] ["points"] (defScope (top 74)) := ⟨rfl, rfl, rfl, by decide +kernel, rfl, by decide +kernel, by decide +kernel⟩
theorem ok_law_polygon (T : Txt K mg) : Ok P w K mg base 1 "_law_polygon" (top 74) ["points"] [] fs_law_polygon := by
  have S := sc_law_polygon
  refine vfnO (T.1 _ (List.mem_of_getElem? (i := 51) rfl)) S (fun _ _ _ _ _ _ us hl => match us, hl with | [_], _ => rfl) fun C cdv A outer s H E _ hr => ⟨b_law_polygon, ?_, sem_law_polygon⟩
  exact (vs_cons (v_parT (is := [2, 3, 4]) rfl (vf_cons (ve_blt br_len (T.2.1 _ (List.mem_of_getElem? (i := 0) rfl)) (va_cons (vo_var 0) va_nil)) (vf_cons (ve_lst va_nil) (vf_cons (ve_tup (va_cons (vo_e ve_int) (va_cons (vo_e ve_int) va_nil))) vf_nil))) (pgs_cons (pg_name S.nd rfl (by first | exact Or.inl rfl | exact Or.inr rfl) (by first | exact Or.inl rfl | exact Or.inr rfl)) (pgs_cons (pg_name S.nd rfl (by first | exact Or.inl rfl | exact Or.inr rfl) (by first | exact Or.inl rfl | exact Or.inr rfl)) (pgs_cons (pg_name S.nd rfl (by first | exact Or.inl rfl | exact Or.inr rfl) (by first | exact Or.inl rfl | exact Or.inr rfl)) pgs_nil))))
  (vs_cons (v_for PassesOwn.never rfl (vi_seq (ve_var 0)) (vg_name (i := 1) S.nd)
  (vs_cons (v_expr (ve_app (i := 3) (ve_var 4)))
  (vs_cons (v_set (i := 4) S.nd (ve_tup (va_cons (vo_e (ve_op or_add (vo_e (ve_ix (vo_var 4) (vo_e ve_int))) (vo_e (ve_ix (vo_var 1) (vo_e ve_int))))) (va_cons (vo_e (ve_op or_add (vo_e (ve_ix (vo_var 4) (vo_e ve_int))) (vo_e (ve_ix (vo_var 1) (vo_e ve_int))))) va_nil))))
  vs_nil)))
  (vs_cons (v_parT (is := [5, 6]) rfl (vf_cons (ve_blt (br_sum rfl) (T.2.1 _ (List.mem_of_getElem? (i := 11) rfl)) (va_cons (vo_e (ve_lc (own := [("corner", 7)]) rfl S.nd (blkOk_by (by kernel_rfl)) (vi_seq (ve_var 3)) (fun _ _ _ _ _ => (vg_name (i := 7) S.nd)) (fun _ _ _ _ _ => vts_nil) (fun _ _ _ _ _ => (ve_ix (vo_var 7) (vo_e ve_int))))) va_nil)) (vf_cons (ve_blt (br_sum rfl) (T.2.1 _ (List.mem_of_getElem? (i := 11) rfl)) (va_cons (vo_e (ve_lc (own := [("corner", 7)]) rfl S.nd (blkOk_by (by kernel_rfl)) (vi_seq (ve_var 3)) (fun _ _ _ _ _ => (vg_name (i := 7) S.nd)) (fun _ _ _ _ _ => vts_nil) (fun _ _ _ _ _ => (ve_ix (vo_var 7) (vo_e ve_int))))) va_nil)) vf_nil)) (pgs_cons (pg_name S.nd rfl (by first | exact Or.inl rfl | exact Or.inr rfl) (by first | exact Or.inl rfl | exact Or.inr rfl)) (pgs_cons (pg_name S.nd rfl (by first | exact Or.inl rfl | exact Or.inr rfl) (by first | exact Or.inl rfl | exact Or.inr rfl)) pgs_nil)))
  (vs_cons (v_ret (ve_lc (own := [("corner", 7)]) rfl S.nd (blkOk_by (by kernel_rfl)) (vi_seq (ve_var 3)) (fun _ _ _ _ _ => (vg_name (i := 7) S.nd)) (fun _ _ _ _ _ => vts_nil) (fun _ _ _ _ _ => (ve_tup (va_cons (vo_e (ve_op or_sub (vo_e (ve_op or_mul (vo_var 2) (vo_e (ve_ix (vo_var 7) (vo_e ve_int))))) (vo_var 5))) (va_cons (vo_e (ve_op or_sub (vo_e (ve_op or_mul (vo_var 2) (vo_e (ve_ix (vo_var 7) (vo_e ve_int))))) (vo_var 6))) va_nil))))))
  vs_nil))))
theorem sc_law_spread : FnScope ["urn", "points", "base", "one", "point", "number"] ["urn", "points"] (defScope (top 75)) := ⟨rfl, rfl, rfl, by decide +kernel, rfl, by decide +kernel, by decide +kernel⟩
theorem ok_law_spread (T : Txt K mg) : Ok P w K mg base 5 "_law_spread" (top 75) ["urn", "points"] [0] fs_law_spread := by
  have S := sc_law_spread
  have k_law_wired := ok_law_wired (P := P) (w := w) (base := base) T
  refine vfnO (T.1 _ (List.mem_of_getElem? (i := 52) rfl)) S (fun _ _ _ _ _ _ us hl => match us, hl with | [_, _], _ => rfl) fun C cdv A outer s H E _ hr => ⟨b_law_spread, ?_, sem_law_spread⟩
  exact (vs_cons (v_set (i := 2) S.nd (ve_callO k_law_wired (hr.mono (by decide)) (va_cons (vo_var 0) (va_cons (vo_e (ve_blt br_len (T.2.1 _ (List.mem_of_getElem? (i := 0) rfl)) (va_cons (vo_var 1) va_nil))) (va_cons (vo_e ve_int) (va_cons (vo_e ve_int) va_nil))))))
  (vs_cons (v_set (i := 3) S.nd (ve_bty br_tuple (T.2.1 _ (List.mem_of_getElem? (i := 6) rfl)) (va_cons (vo_e (ve_lc (own := [("point", 4), ("number", 5)]) rfl S.nd (blkOk_by (by kernel_rfl)) (vi_zip2 (T.2.1 _ (List.mem_of_getElem? (i := 5) rfl)) (va_cons (vo_e (ve_var 1)) (va_cons (vo_e (ve_var 2)) va_nil))) (fun _ _ _ _ _ => (vg_tup rfl (vgs_cons (vg_name (i := 4) S.nd) (vgs_cons (vg_name (i := 5) S.nd) vgs_nil)))) (fun _ _ _ _ _ => vts_nil) (fun _ _ _ _ _ => (ve_op or_add (vo_e (ve_ix (vo_var 4) (vo_e ve_int))) (vo_var 5))))) va_nil)))
  (vs_cons (v_ret (ve_tup (va_cons (vo_e (ve_var 3)) (va_cons (vo_e (ve_bty br_tuple (T.2.1 _ (List.mem_of_getElem? (i := 6) rfl)) (va_cons (vo_var 2) va_nil))) (va_cons (vo_e (ve_bty br_tuple (T.2.1 _ (List.mem_of_getElem? (i := 6) rfl)) (va_cons (vo_e (ve_lc (own := [("point", 4), ("number", 5)]) rfl S.nd (blkOk_by (by kernel_rfl)) (vi_zip2 (T.2.1 _ (List.mem_of_getElem? (i := 5) rfl)) (va_cons (vo_e (ve_var 1)) (va_cons (vo_e (ve_var 2)) va_nil))) (fun _ _ _ _ _ => (vg_tup rfl (vgs_cons (vg_name (i := 4) S.nd) (vgs_cons (vg_name (i := 5) S.nd) vgs_nil)))) (fun _ _ _ _ _ => vts_nil) (fun _ _ _ _ _ => (ve_op or_add (vo_e (ve_ix (vo_var 4) (vo_e ve_int))) (vo_var 5))))) va_nil))) va_nil)))))
  vs_nil)))
theorem sc_law_repeated : FnScope ["urn", "slots", "turned", "many", "sixths", "first", "turn", "found", "one", "two", "each", "point"] ["urn", "slots"] (defScope (top 76)) := ⟨rfl, rfl, rfl, by decide +kernel, rfl, by decide +kernel, by decide +kernel⟩
theorem ok_law_repeated (T : Txt K mg) : Ok P w K mg base 3 "_law_repeated" (top 76) ["urn", "slots"] [0] fs_law_repeated := by
  have S := sc_law_repeated
  have k_law_sixths := ok_law_sixths (P := P) (w := w) (base := base) T
  have k_law_draw := ok_law_draw (P := P) (w := w) (base := base) T
  have k_law_pick := ok_law_pick (P := P) (w := w) (base := base) T
  refine vfnO (T.1 _ (List.mem_of_getElem? (i := 53) rfl)) S (fun _ _ _ _ _ _ us hl => match us, hl with | [_, _], _ => rfl) fun C cdv A outer s H E _ hr => ⟨b_law_repeated, ?_, sem_law_repeated⟩
  have hu := VL.hu_of hr
  exact (vs_cons (v_set (i := 2) S.nd (ve_or (ve_cmp (or_eq hu) (vo_e (ve_op or_mod (vo_e (ve_bty br_int (T.2.1 _ (List.mem_of_getElem? (i := 9) rfl)) (va_cons (vo_var 1) va_nil))) (vo_e ve_int))) (vo_e ve_int)) (ve_one (ve_cmp (or_eq hu) (vo_e (ve_op or_mod (vo_e (ve_bty br_int (T.2.1 _ (List.mem_of_getElem? (i := 9) rfl)) (va_cons (vo_var 1) va_nil))) (vo_e ve_int))) (vo_e ve_int)))))
  (vs_cons (v_set (i := 3) S.nd (ve_callO k_law_pick (hr.mono (by decide)) (va_cons (vo_var 0) (va_cons (vo_e (ve_lc (own := [("each", 10)]) rfl S.nd (blkOk_by (by kernel_rfl)) (vi_range2 (T.2.1 _ (List.mem_of_getElem? (i := 1) rfl)) (va_cons (vo_e ve_int) (va_cons (vo_e (ve_op or_add (vo_var 1) (vo_e (ve_bty br_int (T.2.1 _ (List.mem_of_getElem? (i := 9) rfl)) (va_cons (vo_var 2) va_nil))))) va_nil))) (fun _ _ _ _ _ => (vg_name (i := 10) S.nd)) (fun _ _ _ _ _ => (vts_one (vt_cmp' (or_eq hu) (vo_e (ve_op or_mod (vo_e (ve_bty br_int (T.2.1 _ (List.mem_of_getElem? (i := 9) rfl)) (va_cons (vo_var 1) va_nil))) (vo_var 10))) (vo_e ve_int)))) (fun _ _ _ _ _ => (ve_var 10)))) va_nil))))
  (vs_cons (v_set (i := 4) S.nd (ve_callO k_law_pick (hr.mono (by decide)) (va_cons (vo_var 0) (va_cons (vo_e (ve_lc (own := [("each", 10)]) rfl S.nd (blkOk_by (by kernel_rfl)) (vi_range2 (T.2.1 _ (List.mem_of_getElem? (i := 1) rfl)) (va_cons (vo_e (ve_bty br_int (T.2.1 _ (List.mem_of_getElem? (i := 9) rfl)) (va_cons (vo_e (ve_cmp (or_eq hu) (vo_var 3) (vo_var 1))) va_nil))) (va_cons (vo_e ve_int) va_nil))) (fun _ _ _ _ _ => (vg_name (i := 10) S.nd)) (fun _ _ _ _ _ => (vts_one (vt_cmp' (or_eq hu) (vo_e (ve_op or_mod (vo_e (ve_bty br_int (T.2.1 _ (List.mem_of_getElem? (i := 9) rfl)) (va_cons (vo_e (ve_op or_mul (vo_var 10) (vo_var 3))) va_nil))) (vo_e ve_int))) (vo_e ve_int)))) (fun _ _ _ _ _ => (ve_var 10)))) va_nil))))
  (vs_cons (v_set (i := 5) S.nd (ve_lst va_nil))
  (vs_cons (v_for PassesOwn.never rfl (vi_range1 (T.2.1 _ (List.mem_of_getElem? (i := 1) rfl)) (va_cons (vo_e (ve_op or_div (vo_var 1) (vo_var 3))) va_nil)) (vg_name (i := 6) S.nd)
  (vs_cons (v_set (i := 8) S.nd (ve_op or_sub (vo_e (ve_callO k_law_draw (hr.mono (by decide)) (va_cons (vo_var 0) (va_cons (vo_e ve_int) va_nil)))) (vo_e ve_int)))
  (vs_cons (v_expr (ve_app (i := 5) (ve_tup (va_cons (vo_e (ve_var 8)) (va_cons (vo_e (ve_op or_sub (vo_e (ve_callO k_law_draw (hr.mono (by decide)) (va_cons (vo_var 0) (va_cons (vo_e ve_int) va_nil)))) (vo_e ve_int))) va_nil)))))
  vs_nil)))
  (vs_cons (v_if (vt_cmp' (or_eq hu) (vo_var 4) (vo_e ve_int))
  (vs_cons (v_par2 (i := 8) (j := 9) rfl S.nd (vf_cons (ve_blt (br_sum rfl) (T.2.1 _ (List.mem_of_getElem? (i := 11) rfl)) (va_cons (vo_e (ve_bor 5 (ve_lc (own := [("point", 11)]) rfl S.nd (blkOk_by (by kernel_rfl)) (vi_seq (ve_var 5)) (fun _ _ _ _ _ => (vg_name (i := 11) S.nd)) (fun _ _ _ _ _ => vts_nil) (fun _ _ _ _ _ => (ve_ix (vo_var 11) (vo_e ve_int)))))) va_nil)) (vf_cons (ve_blt (br_sum rfl) (T.2.1 _ (List.mem_of_getElem? (i := 11) rfl)) (va_cons (vo_e (ve_bor 5 (ve_lc (own := [("point", 11)]) rfl S.nd (blkOk_by (by kernel_rfl)) (vi_seq (ve_var 5)) (fun _ _ _ _ _ => (vg_name (i := 11) S.nd)) (fun _ _ _ _ _ => vts_nil) (fun _ _ _ _ _ => (ve_ix (vo_var 11) (vo_e ve_int)))))) va_nil)) vf_nil)))
  (vs_cons (v_asg (ve_tup (va_cons (vo_e (ve_op or_sub (vo_e (ve_ix (vo_e (ve_ix (vo_var 5) (vo_e ve_int))) (vo_e ve_int))) (vo_var 8))) (va_cons (vo_e (ve_op or_sub (vo_e (ve_ix (vo_e (ve_ix (vo_var 5) (vo_e ve_int))) (vo_e ve_int))) (vo_var 9))) va_nil))) (vg_subN (i := 5) ve_int))
  vs_nil))
  vs_nil)
  (vs_cons (v_set (i := 7) S.nd (ve_lst va_nil))
  (vs_cons (v_for PassesOwn.never rfl (vi_range1 (T.2.1 _ (List.mem_of_getElem? (i := 1) rfl)) (va_cons (vo_var 3) va_nil)) (vg_name (i := 6) S.nd)
  (vs_cons (v_set (i := 7) S.nd (ve_op or_add (vo_var 7) (vo_e (ve_lc (own := [("point", 11)]) rfl S.nd (blkOk_by (by kernel_rfl)) (vi_seq (ve_var 5)) (fun _ _ _ _ _ => (vg_name (i := 11) S.nd)) (fun _ _ _ _ _ => vts_nil) (fun _ _ _ _ _ => (ve_callO k_law_sixths (hr.mono (by decide)) (va_cons (vo_e (ve_var 11)) (va_cons (vo_e (ve_op or_mul (vo_var 4) (vo_var 6))) va_nil))))))))
  vs_nil))
  (vs_cons (v_retv 7)
  vs_nil)))))))))
theorem sc_law_mirrored : FnScope ["urn", "points", "found", "k", "at", "sixths", "slots", "far", "one", "two"] ["urn", "points"] (defScope (top 77)) := ⟨rfl, rfl, rfl, by decide +kernel, rfl, by decide +kernel, by decide +kernel⟩
theorem ok_law_mirrored (T : Txt K mg) : Ok P w K mg base 2 "_law_mirrored" (top 77) ["urn", "points"] [0] fs_law_mirrored := by
  have S := sc_law_mirrored
  have k_law_sixths := ok_law_sixths (P := P) (w := w) (base := base) T
  have k_law_draw := ok_law_draw (P := P) (w := w) (base := base) T
  refine vfnO (T.1 _ (List.mem_of_getElem? (i := 54) rfl)) S (fun _ _ _ _ _ _ us hl => match us, hl with | [_, _], _ => rfl) fun C cdv A outer s H E _ hr => ⟨b_law_mirrored, ?_, sem_law_mirrored⟩
  exact (vs_cons (v_par3 (i := 4) (j := 5) (l := 6) rfl S.nd (vf_cons (ve_callO k_law_draw (hr.mono (by decide)) (va_cons (vo_var 0) (va_cons (vo_e (ve_blt br_len (T.2.1 _ (List.mem_of_getElem? (i := 0) rfl)) (va_cons (vo_var 1) va_nil))) va_nil))) (vf_cons (ve_callO k_law_draw (hr.mono (by decide)) (va_cons (vo_var 0) (va_cons (vo_e ve_int) va_nil))) (vf_cons (ve_blt br_len (T.2.1 _ (List.mem_of_getElem? (i := 0) rfl)) (va_cons (vo_var 1) va_nil)) vf_nil))))
  (vs_cons (v_set (i := 2) S.nd (ve_lst va_nil))
  (vs_cons (v_for PassesOwn.never rfl (vi_range1 (T.2.1 _ (List.mem_of_getElem? (i := 1) rfl)) (va_cons (vo_var 6) va_nil)) (vg_name (i := 3) S.nd)
  (vs_cons (v_asg (ve_ix (vo_var 1) (vo_e (ve_op or_sub (vo_var 4) (vo_var 3)))) (vg_tup rfl (vgs_cons (vg_name (i := 8) S.nd) (vgs_cons (vg_name (i := 9) S.nd) vgs_nil))))
  (vs_cons (v_set (i := 7) S.nd (ve_callO k_law_sixths (hr.mono (by decide)) (va_cons (vo_e (ve_tup (va_cons (vo_e (ve_op or_sub (vo_var 8) (vo_var 9))) (va_cons (vo_e (ve_op or_sub (vo_e ve_int) (vo_var 9))) va_nil)))) (va_cons (vo_e (ve_var 5)) va_nil))))
  (vs_cons (v_expr (ve_app (i := 2) (ve_tup (va_cons (vo_e (ve_op or_add (vo_e (ve_ix (vo_e (ve_ix (vo_var 1) (vo_var 3))) (vo_e ve_int))) (vo_e (ve_ix (vo_var 7) (vo_e ve_int))))) (va_cons (vo_e (ve_op or_add (vo_e (ve_ix (vo_e (ve_ix (vo_var 1) (vo_var 3))) (vo_e ve_int))) (vo_e (ve_ix (vo_var 7) (vo_e ve_int))))) va_nil)))))
  vs_nil))))
  (vs_cons (v_retv 2)
  vs_nil))))
theorem sc_law_belted : FnScope ["urn", "slots", "pairs", "s", "each"] ["urn", "slots"] (defScope (top 78)) := ⟨rfl, rfl, rfl, by decide +kernel, rfl, by decide +kernel, by decide +kernel⟩
theorem ok_law_belted (T : Txt K mg) : Ok P w K mg base 3 "_law_belted" (top 78) ["urn", "slots"] [0] fs_law_belted := by
  have S := sc_law_belted
  have k_law_sixths := ok_law_sixths (P := P) (w := w) (base := base) T
  have k_law_pick := ok_law_pick (P := P) (w := w) (base := base) T
  refine vfnO (T.1 _ (List.mem_of_getElem? (i := 55) rfl)) S (fun _ _ _ _ _ _ us hl => match us, hl with | [_, _], _ => rfl) fun C cdv A outer s H E _ hr => ⟨b_law_belted, ?_, sem_law_belted⟩
  have hu := VL.hu_of hr
  exact (vs_cons (v_set (i := 2) S.nd (ve_callO k_law_pick (hr.mono (by decide)) (va_cons (vo_var 0) (va_cons (vo_e (ve_lc (own := [("each", 4)]) rfl S.nd (blkOk_by (by kernel_rfl)) (vi_range2 (T.2.1 _ (List.mem_of_getElem? (i := 1) rfl)) (va_cons (vo_e ve_int) (va_cons (vo_e (ve_op or_add (vo_e (ve_op or_div (vo_var 1) (vo_e ve_int))) (vo_e ve_int))) va_nil))) (fun _ _ _ _ _ => (vg_name (i := 4) S.nd)) (fun _ _ _ _ _ => (vts_one (vt_cmp' (or_eq hu) (vo_e (ve_op or_mod (vo_e (ve_bty br_int (T.2.1 _ (List.mem_of_getElem? (i := 9) rfl)) (va_cons (vo_var 1) va_nil))) (vo_e (ve_op or_mul (vo_e ve_int) (vo_var 4))))) (vo_e ve_int)))) (fun _ _ _ _ _ => (ve_var 4)))) va_nil))))
  (vs_cons (v_ret (ve_lc (own := [("s", 3)]) rfl S.nd (blkOk_by (by kernel_rfl)) (vi_range1 (T.2.1 _ (List.mem_of_getElem? (i := 1) rfl)) (va_cons (vo_var 1) va_nil)) (fun _ _ _ _ _ => (vg_name (i := 3) S.nd)) (fun _ _ _ _ _ => vts_nil) (fun _ _ _ _ _ => (ve_callO k_law_sixths (hr.mono (by decide)) (va_cons (vo_e (ve_tup (va_cons (vo_e ve_int) (va_cons (vo_e ve_int) va_nil)))) (va_cons (vo_e (ve_op or_sub (vo_e ve_int) (vo_e (ve_op or_div (vo_e (ve_op or_mul (vo_e (ve_op or_mul (vo_e ve_int) (vo_var 2))) (vo_var 3))) (vo_var 1))))) va_nil))))))
  vs_nil))
theorem sc_law_three : FnScope ["urn", "slots", "way", "rows", "two", "points", "row", "none", "turn", "sign", "phase", "s"] ["urn", "slots"] (defScope (top 79)) := ⟨rfl, rfl, rfl, by decide +kernel, rfl, by decide +kernel, by decide +kernel⟩
theorem ok_law_three (T : Txt K mg) : Ok P w K mg base 6 "_law_three" (top 79) ["urn", "slots"] [0] fs_law_three := by
  have S := sc_law_three
  have k_law_wired := ok_law_wired (P := P) (w := w) (base := base) T
  have k_law_spread := ok_law_spread (P := P) (w := w) (base := base) T
  have k_law_belted := ok_law_belted (P := P) (w := w) (base := base) T
  have k_law_mirrored := ok_law_mirrored (P := P) (w := w) (base := base) T
  have k_law_repeated := ok_law_repeated (P := P) (w := w) (base := base) T
  have k_law_pick := ok_law_pick (P := P) (w := w) (base := base) T
  have k_law_draw := ok_law_draw (P := P) (w := w) (base := base) T
  refine vfnO (T.1 _ (List.mem_of_getElem? (i := 56) rfl)) S (fun _ _ _ _ _ _ us hl => match us, hl with | [_, _], _ => rfl) fun C cdv A outer s H E _ hr => ⟨b_law_three, ?_, sem_law_three⟩
  have hu := VL.hu_of hr
  exact (vs_cons (v_set (i := 2) S.nd (ve_callO k_law_draw (hr.mono (by decide)) (va_cons (vo_var 0) (va_cons (vo_e ve_int) va_nil))))
  (vs_cons (v_if (vt_cmp' or_lt (vo_var 2) (vo_e ve_int))
  (vs_cons (v_setLc (i := 3) (own := [("phase", 10)]) rfl S.nd (blkOk_by (by kernel_rfl)) (vi_range1 (T.2.1 _ (List.mem_of_getElem? (i := 1) rfl)) (va_cons (vo_e ve_int) va_nil)) (fun _ _ _ _ _ => (vg_name (i := 10) S.nd)) (fun _ _ _ _ _ => vts_nil) (fun _ _ _ _ _ => (ve_callO k_law_wired (hr.mono (by decide)) (va_cons (vo_var 0) (va_cons (vo_e (ve_var 1)) (va_cons (vo_e ve_int) (va_cons (vo_e ve_int) va_nil)))))))
  (vs_cons (v_ret (ve_bty br_tuple (T.2.1 _ (List.mem_of_getElem? (i := 6) rfl)) (va_cons (vo_e (ve_lc (own := [("row", 6)]) rfl S.nd (blkOk_by (by kernel_rfl)) (vi_seq (ve_var 3)) (fun _ _ _ _ _ => (vg_name (i := 6) S.nd)) (fun _ _ _ _ _ => vts_nil) (fun _ _ _ _ _ => (ve_bty br_tuple (T.2.1 _ (List.mem_of_getElem? (i := 6) rfl)) (va_cons (vo_var 6) va_nil))))) va_nil)))
  vs_nil))
  vs_nil)
  (vs_cons (v_if (vt_cmp' or_lt (vo_var 2) (vo_e ve_int))
  (vs_cons (v_parT (is := [6, 8, 9]) rfl (vf_cons (ve_callO k_law_wired (hr.mono (by decide)) (va_cons (vo_var 0) (va_cons (vo_e (ve_var 1)) (va_cons (vo_e ve_int) (va_cons (vo_e ve_int) va_nil))))) (vf_cons (ve_callO k_law_draw (hr.mono (by decide)) (va_cons (vo_var 0) (va_cons (vo_e (ve_var 1)) va_nil))) (vf_cons (ve_callO k_law_pick (hr.mono (by decide)) (va_cons (vo_var 0) (va_cons (vo_e (ve_lst (va_cons (vo_e ve_int) (va_cons (vo_e (ve_neg (vo_e ve_int))) va_nil)))) va_nil))) vf_nil))) (pgs_cons (pg_name S.nd rfl (by first | exact Or.inl rfl | exact Or.inr rfl) (by first | exact Or.inl rfl | exact Or.inr rfl)) (pgs_cons (pg_name S.nd rfl (by first | exact Or.inl rfl | exact Or.inr rfl) (by first | exact Or.inl rfl | exact Or.inr rfl)) (pgs_cons (pg_name S.nd rfl (by first | exact Or.inl rfl | exact Or.inr rfl) (by first | exact Or.inl rfl | exact Or.inr rfl)) pgs_nil))))
  (vs_cons (v_set (i := 4) S.nd (ve_lc (own := [("s", 11)]) rfl S.nd (blkOk_by (by kernel_rfl)) (vi_range1 (T.2.1 _ (List.mem_of_getElem? (i := 1) rfl)) (va_cons (vo_var 1) va_nil)) (fun _ _ _ _ _ => (vg_name (i := 11) S.nd)) (fun _ _ _ _ _ => vts_nil) (fun _ _ _ _ _ => (ve_op or_mul (vo_var 9) (vo_e (ve_ix (vo_var 6) (vo_e (ve_op or_sub (vo_var 11) (vo_var 8)))))))))
  (vs_cons (v_ret (ve_tup (va_cons (vo_e (ve_bty br_tuple (T.2.1 _ (List.mem_of_getElem? (i := 6) rfl)) (va_cons (vo_var 6) va_nil))) (va_cons (vo_e (ve_bty br_tuple (T.2.1 _ (List.mem_of_getElem? (i := 6) rfl)) (va_cons (vo_var 4) va_nil))) (va_cons (vo_e (ve_bty br_tuple (T.2.1 _ (List.mem_of_getElem? (i := 6) rfl)) (va_cons (vo_e (ve_lc (own := [("s", 11)]) rfl S.nd (blkOk_by (by kernel_rfl)) (vi_range1 (T.2.1 _ (List.mem_of_getElem? (i := 1) rfl)) (va_cons (vo_var 1) va_nil)) (fun _ _ _ _ _ => (vg_name (i := 11) S.nd)) (fun _ _ _ _ _ => vts_nil) (fun _ _ _ _ _ => (ve_op or_mul (vo_var 9) (vo_e (ve_ix (vo_var 4) (vo_e (ve_op or_sub (vo_var 11) (vo_var 8))))))))) va_nil))) va_nil)))))
  vs_nil)))
  vs_nil)
  (vs_cons (v_if (vt_cmp' or_lt (vo_var 2) (vo_e ve_int))
  (vs_cons (v_set (i := 5) S.nd (ve_callO k_law_repeated (hr.mono (by decide)) (va_cons (vo_var 0) (va_cons (vo_e (ve_var 1)) va_nil))))
  (vs_cons (v_ret (ve_callO k_law_spread (hr.mono (by decide)) (va_cons (vo_var 0) (va_cons (vo_e (ve_if (vt_cmp' or_lt (vo_var 2) (vo_e ve_int)) (ve_var 5) (ve_callO k_law_mirrored (hr.mono (by decide)) (va_cons (vo_var 0) (va_cons (vo_e (ve_var 5)) va_nil))))) va_nil))))
  vs_nil))
  vs_nil)
  (vs_cons (v_if (VW.vt (vw_and (vt_cmp' (or_eq hu) (vo_var 2) (vo_e ve_int)) (vw_and1 (vt_cmp' (or_eq hu) (vo_e (ve_op or_mod (vo_e (ve_bty br_int (T.2.1 _ (List.mem_of_getElem? (i := 9) rfl)) (va_cons (vo_var 1) va_nil))) (vo_e ve_int))) (vo_e ve_int)))))
  (vs_cons (v_ret (ve_callO k_law_spread (hr.mono (by decide)) (va_cons (vo_var 0) (va_cons (vo_e (ve_callO k_law_belted (hr.mono (by decide)) (va_cons (vo_var 0) (va_cons (vo_e (ve_var 1)) va_nil)))) va_nil))))
  vs_nil)
  vs_nil)
  (vs_cons (v_parT (is := [6, 7]) rfl (vf_cons (ve_bty br_tuple (T.2.1 _ (List.mem_of_getElem? (i := 6) rfl)) (va_cons (vo_e (ve_callO k_law_wired (hr.mono (by decide)) (va_cons (vo_var 0) (va_cons (vo_e (ve_var 1)) (va_cons (vo_e ve_int) (va_cons (vo_e ve_int) va_nil)))))) va_nil)) (vf_cons (ve_bty br_tuple (T.2.1 _ (List.mem_of_getElem? (i := 6) rfl)) (va_cons (vo_e (ve_op or_mul (vo_e (ve_lst (va_cons (vo_e ve_int) va_nil))) (vo_var 1))) va_nil)) vf_nil)) (pgs_cons (pg_name S.nd rfl (by first | exact Or.inl rfl | exact Or.inr rfl) (by first | exact Or.inl rfl | exact Or.inr rfl)) (pgs_cons (pg_name S.nd rfl (by first | exact Or.inl rfl | exact Or.inr rfl) (by first | exact Or.inl rfl | exact Or.inr rfl)) pgs_nil)))
  (vs_cons (v_ret (ve_if (vt_cmp' (or_eq hu) (vo_var 2) (vo_e ve_int)) (ve_tup (va_cons (vo_e (ve_var 6)) (va_cons (vo_e (ve_var 6)) (va_cons (vo_e (ve_var 6)) va_nil)))) (ve_tup (va_cons (vo_e (ve_var 7)) (va_cons (vo_e (ve_var 6)) (va_cons (vo_e (ve_var 7)) va_nil))))))
  vs_nil)))))))
theorem sc_law_wave_row : FnScope ["points", "harmonic", "slots", "order", "row", "s", "at", "far"] ["points", "harmonic"] (defScope (top 80)) := ⟨rfl, rfl, rfl, by decide +kernel, rfl, by decide +kernel, by decide +kernel⟩
theorem ok_law_wave_row (T : Txt K mg) : Ok P w K mg base 1 "_law_wave_row" (top 80) ["points", "harmonic"] [] fs_law_wave_row := by
  have S := sc_law_wave_row
  refine vfnO (T.1 _ (List.mem_of_getElem? (i := 57) rfl)) S (fun _ _ _ _ _ _ us hl => match us, hl with | [_, _], _ => rfl) fun C cdv A outer s H E _ hr => ⟨b_law_wave_row, ?_, sem_law_wave_row⟩
  have hu := VL.hu_of hr
  exact (vs_cons (v_set (i := 2) S.nd (ve_blt br_len (T.2.1 _ (List.mem_of_getElem? (i := 0) rfl)) (va_cons (vo_var 0) va_nil)))
  (vs_cons (v_set (i := 3) S.nd (ve_if (vt_cmp' (or_eq hu) (vo_e (ve_op or_mod (vo_e (ve_bty br_int (T.2.1 _ (List.mem_of_getElem? (i := 9) rfl)) (va_cons (vo_var 2) va_nil))) (vo_e ve_int))) (vo_e ve_int)) (ve_var 2) (ve_op or_mul (vo_e ve_int) (vo_var 2))))
  (vs_cons (v_set (i := 4) S.nd (ve_op or_mul (vo_e (ve_lst (va_cons (vo_e ve_int) va_nil))) (vo_var 3)))
  (vs_cons (v_for PassesOwn.never rfl (vi_range1 (T.2.1 _ (List.mem_of_getElem? (i := 1) rfl)) (va_cons (vo_var 2) va_nil)) (vg_name (i := 5) S.nd)
  (vs_cons (v_set (i := 6) S.nd (ve_op or_mul (vo_e (ve_op or_mod (vo_e (ve_bty br_int (T.2.1 _ (List.mem_of_getElem? (i := 9) rfl)) (va_cons (vo_e (ve_op or_mul (vo_var 1) (vo_var 5))) va_nil))) (vo_var 2))) (vo_e (ve_op or_div (vo_var 3) (vo_var 2)))))
  (vs_cons (v_set (i := 7) S.nd (ve_op or_mod (vo_e (ve_bty br_int (T.2.1 _ (List.mem_of_getElem? (i := 9) rfl)) (va_cons (vo_e (ve_op or_add (vo_var 6) (vo_e (ve_op or_div (vo_var 3) (vo_e ve_int))))) va_nil))) (vo_var 3)))
  (vs_cons (v_asg (ve_op or_add (vo_e (ve_ix (vo_var 4) (vo_var 6))) (vo_e (ve_ix (vo_e (ve_ix (vo_var 0) (vo_var 5))) (vo_e ve_int)))) (vg_subN (i := 4) (ve_var 6)))
  (vs_cons (v_asg (ve_op or_add (vo_e (ve_ix (vo_var 4) (vo_var 7))) (vo_e (ve_ix (vo_e (ve_ix (vo_var 0) (vo_var 5))) (vo_e ve_int)))) (vg_subN (i := 4) (ve_var 7)))
  vs_nil)))))
  (vs_cons (v_retv 4)
  vs_nil)))))
theorem sc_law_is_nought : FnScope ["row", "primes", "prime", "order", "found", "each", "k", "number", "part"] ["row"] (defScope (top 81)) := ⟨rfl, rfl, rfl, by decide +kernel, rfl, by decide +kernel, by decide +kernel⟩
theorem ok_law_is_nought (T : Txt K mg) : Ok P w K mg base 1 "_law_is_nought" (top 81) ["row"] [] fs_law_is_nought := by
  have S := sc_law_is_nought
  refine vfnO (T.1 _ (List.mem_of_getElem? (i := 58) rfl)) S (fun _ _ _ _ _ _ us hl => match us, hl with | [_], _ => rfl) fun C cdv A outer s H E _ hr => ⟨b_law_is_nought, ?_, sem_law_is_nought⟩
  have hu := VL.hu_of hr
  exact (vs_cons (v_parT (is := [3, 4]) rfl (vf_cons (ve_blt br_len (T.2.1 _ (List.mem_of_getElem? (i := 0) rfl)) (va_cons (vo_var 0) va_nil)) (vf_cons (ve_var 0) vf_nil)) (pgs_cons (pg_name S.nd rfl (by first | exact Or.inl rfl | exact Or.inr rfl) (by first | exact Or.inl rfl | exact Or.inr rfl)) (pgs_cons (pg_name S.nd rfl (by first | exact Or.inl rfl | exact Or.inr rfl) (by first | exact Or.inl rfl | exact Or.inr rfl)) pgs_nil)))
  (vs_cons (v_setLc (i := 1) (own := [("each", 5)]) rfl S.nd (blkOk_by (by kernel_rfl)) (vi_range2 (T.2.1 _ (List.mem_of_getElem? (i := 1) rfl)) (va_cons (vo_e ve_int) (va_cons (vo_e (ve_op or_add (vo_var 3) (vo_e ve_int))) va_nil))) (fun _ _ _ _ _ => (vg_name (i := 5) S.nd)) (fun _ _ _ _ _ => (vts_one (vt_cmp' (or_eq hu) (vo_e (ve_op or_mod (vo_e (ve_bty br_int (T.2.1 _ (List.mem_of_getElem? (i := 9) rfl)) (va_cons (vo_var 3) va_nil))) (vo_var 5))) (vo_e ve_int)))) (fun _ _ _ _ _ => (ve_var 5)))
  (vs_cons (v_for PassesOwn.never rfl (vi_seq (ve_lc (own := [("each", 5)]) rfl S.nd (blkOk_by (by kernel_rfl)) (vi_seq (ve_var 1)) (fun _ _ _ _ _ => (vg_name (i := 5) S.nd)) (fun _ _ _ _ _ => (vts_one (vt_cmp' (or_eq hu) (vo_e (ve_lc (own := [("part", 8)]) rfl S.nd (blkOk_by (by kernel_rfl)) (vi_range2 (T.2.1 _ (List.mem_of_getElem? (i := 1) rfl)) (va_cons (vo_e ve_int) (va_cons (vo_var 5) va_nil))) (fun _ _ _ _ _ => (vg_name (i := 8) S.nd)) (fun _ _ _ _ _ => (vts_one (vt_cmp' (or_eq hu) (vo_e (ve_op or_mod (vo_e (ve_bty br_int (T.2.1 _ (List.mem_of_getElem? (i := 9) rfl)) (va_cons (vo_var 5) va_nil))) (vo_var 8))) (vo_e ve_int)))) (fun _ _ _ _ _ => (ve_var 8)))) (vo_e (ve_lst va_nil))))) (fun _ _ _ _ _ => (ve_var 5)))) (vg_name (i := 2) S.nd)
  (vs_cons (v_set (i := 4) S.nd (ve_lc (own := [("k", 6)]) rfl S.nd (blkOk_by (by kernel_rfl)) (vi_range1 (T.2.1 _ (List.mem_of_getElem? (i := 1) rfl)) (va_cons (vo_var 3) va_nil)) (fun _ _ _ _ _ => (vg_name (i := 6) S.nd)) (fun _ _ _ _ _ => vts_nil) (fun _ _ _ _ _ => (ve_op or_sub (vo_e (ve_ix (vo_var 4) (vo_var 6))) (vo_e (ve_ix (vo_var 4) (vo_e (ve_op or_sub (vo_var 6) (vo_e (ve_op or_div (vo_var 3) (vo_var 2)))))))))))
  vs_nil))
  (vs_cons (v_ret (ve_cmp (or_eq hu) (vo_e (ve_lc (own := [("number", 7)]) rfl S.nd (blkOk_by (by kernel_rfl)) (vi_seq (ve_var 4)) (fun _ _ _ _ _ => (vg_name (i := 7) S.nd)) (fun _ _ _ _ _ => (vts_one (vt_cmp' (or_ne hu) (vo_var 7) (vo_e ve_int)))) (fun _ _ _ _ _ => (ve_var 7)))) (vo_e (ve_lst va_nil))))
  vs_nil))))
theorem sc_law_right : FnScope ["urn", "slots", "winding", "moment", "standing", "squares", "ways", "due", "points", "pulled", "row", "point", "each", "lobes", "one", "two"] ["urn"] (defScope (top 82)) := ⟨rfl, rfl, rfl, by decide +kernel, rfl, by decide +kernel, by decide +kernel⟩
theorem ok_law_right (T : Txt K mg) : OkG P w K mg base 9 "_law_right" (top 82) ["urn"] [0] fs_law_right := by
  have S := sc_law_right
  have k_has_beating := ok_has_beating (P := P) (w := w) (base := base) T
  have k_has_standing := ok_has_standing (P := P) (w := w) (base := base) T
  have k_pulls := ok_pulls (P := P) (w := w) (base := base) T
  have k_law_is_nought := ok_law_is_nought (P := P) (w := w) (base := base) T
  have k_law_wave_row := ok_law_wave_row (P := P) (w := w) (base := base) T
  have k_law_times := ok_law_times (P := P) (w := w) (base := base) T
  have k_law_norm := ok_law_norm (P := P) (w := w) (base := base) T
  have k_is_pulled_at := ok_is_pulled_at (P := P) (w := w) (base := base) T
  have k_law_sixths := ok_law_sixths (P := P) (w := w) (base := base) T
  have k_law_polygon := ok_law_polygon (P := P) (w := w) (base := base) T
  have k_law_points := ok_law_points (P := P) (w := w) (base := base) T
  have k_law_three := ok_law_three (P := P) (w := w) (base := base) T
  have k_law_pick := ok_law_pick (P := P) (w := w) (base := base) T
  refine vfnGO (T.1 _ (List.mem_of_getElem? (i := 59) rfl)) S (fun _ _ _ _ _ _ us hl => match us, hl with | [_], _ => rfl) fun C cdv A outer s H E _ gd hr => ⟨b_law_right, ?_, sem_law_right⟩
  have hu := VL.hu_of hr
  exact (vs_cons (v_set (i := 1) S.nd (ve_callO k_law_pick (hr.mono (by decide)) (va_cons (vo_var 0) (va_cons (vo_e (ve_lst (va_cons (vo_e ve_int) (va_cons (vo_e ve_int) (va_cons (vo_e ve_int) (va_cons (vo_e ve_int) (va_cons (vo_e ve_int) (va_cons (vo_e ve_int) (va_cons (vo_e ve_int) (va_cons (vo_e ve_int) (va_cons (vo_e ve_int) va_nil))))))))))) va_nil))))
  (vs_cons (v_set (i := 2) S.nd (ve_callO k_law_three (hr.mono (by decide)) (va_cons (vo_var 0) (va_cons (vo_e (ve_var 1)) va_nil))))
  (vs_cons (v_par2 (i := 8) (j := 9) rfl S.nd (vf_cons (ve_callO k_law_polygon (hr.mono (by decide)) (va_cons (vo_e (ve_callO k_law_points (hr.mono (by decide)) (va_cons (vo_e (ve_var 2)) va_nil))) va_nil)) (vf_cons (ve_lst va_nil) vf_nil)))
  (vs_cons (v_for PassesOwn.never rfl (vi_range1 (T.2.1 _ (List.mem_of_getElem? (i := 1) rfl)) (va_cons (vo_e ve_int) va_nil)) (vg_name (i := 3) S.nd)
  (vs_cons (v_set (i := 10) S.nd (ve_lst va_nil))
  (vs_cons (v_for PassesOwn.never rfl (vi_seq (ve_var 8)) (vg_name (i := 11) S.nd)
  (vs_cons (v_asg (ve_callO k_law_sixths (hr.mono (by decide)) (va_cons (vo_e (ve_var 11)) (va_cons (vo_e (ve_op or_div (vo_var 3) (vo_e ve_int))) va_nil))) (vg_tup rfl (vgs_cons (vg_name (i := 14) S.nd) (vgs_cons (vg_name (i := 15) S.nd) vgs_nil))))
  (vs_cons (v_set (i := 12) S.nd (ve_if (vt_cmp' (or_eq hu) (vo_e (ve_op or_mod (vo_e (ve_bty br_int (T.2.1 _ (List.mem_of_getElem? (i := 9) rfl)) (va_cons (vo_var 3) va_nil))) (vo_e ve_int))) (vo_e ve_int)) (ve_op or_sub (vo_e (ve_op or_mul (vo_e ve_int) (vo_var 14))) (vo_var 15)) (ve_op or_sub (vo_var 14) (vo_var 15))))
  (vs_cons (v_expr (ve_app (i := 10) (ve_op or_mul (vo_var 12) (vo_var 12))))
  vs_nil))))
  (vs_cons (v_set (i := 7) S.nd (ve_not (ve_callO k_law_is_nought (hr.mono (by decide)) (va_cons (vo_e (ve_var 10)) va_nil))))
  (vs_cons (v_expr (ve_app (i := 9) (ve_var 7)))
  (vs_cons (v_if (vt_cmp' or_neS (vo_e (ve_blt (br_repr gd hu) (T.2.1 _ (List.mem_of_getElem? (i := 14) rfl)) (va_cons (vo_e (ve_lst (va_cons (vo_e (ve_callOG gd k_is_pulled_at (hr.mono (by decide)) (va_cons (vo_e (ve_var 2)) (va_cons (vo_e (ve_var 3)) va_nil)))) (va_cons (vo_e (ve_callKG (ks := ["moment", "winding"]) [1, 0] gd k_is_pulled_at (hr.mono (by decide)) (fun _ _ _ _ _ _ ws hl => match ws, hl with | _ :: _ :: _, _ => rfl | [], hl => absurd hl (by simp [permL]) | [_], hl => absurd hl (by simp [permL])) (vk_cons (vo_e (ve_var 3)) (vk_cons (vo_e (ve_var 2)) vk_nil)))) va_nil)))) va_nil))) (vo_e (ve_blt (br_repr gd hu) (T.2.1 _ (List.mem_of_getElem? (i := 14) rfl)) (va_cons (vo_e (ve_lst (va_cons (vo_e (ve_var 7)) (va_cons (vo_e (ve_var 7)) va_nil)))) va_nil))))
  (vs_cons (v_ret ve_bl)
  vs_nil)
  vs_nil)
  vs_nil))))))
  (vs_cons (v_if (vt_cmp' (or_ne hu) (vo_e (ve_sl (vo_var 9) vp_none (vp_some ve_int))) (vo_e (ve_sl (vo_var 9) (vp_some ve_int) vp_none)))
  (vs_cons (v_ret ve_bl)
  vs_nil)
  vs_nil)
  (vs_cons (v_set (i := 4) S.nd (ve_not (ve_callO k_law_is_nought (hr.mono (by decide)) (va_cons (vo_e (ve_lc (own := [("point", 11)]) rfl S.nd (blkOk_by (by kernel_rfl)) (vi_seq (ve_var 8)) (fun _ _ _ _ _ => (vg_name (i := 11) S.nd)) (fun _ _ _ _ _ => vts_nil) (fun _ _ _ _ _ => (ve_callO k_law_norm (hr.mono (by decide)) (va_cons (vo_e (ve_var 11)) va_nil))))) va_nil))))
  (vs_cons (v_set (i := 5) S.nd (ve_lc (own := [("point", 11)]) rfl S.nd (blkOk_by (by kernel_rfl)) (vi_seq (ve_var 8)) (fun _ _ _ _ _ => (vg_name (i := 11) S.nd)) (fun _ _ _ _ _ => vts_nil) (fun _ _ _ _ _ => (ve_callO k_law_times (hr.mono (by decide)) (va_cons (vo_e (ve_var 11)) (va_cons (vo_e (ve_var 11)) va_nil))))))
  (vs_cons (v_setLc (i := 6) (own := [("lobes", 13)]) rfl S.nd (blkOk_by (by kernel_rfl)) (vi_seq (ve_lst (va_cons (vo_e ve_int) (va_cons (vo_e (ve_neg (vo_e ve_int))) va_nil)))) (fun _ _ _ _ _ => (vg_name (i := 13) S.nd)) (fun _ _ _ _ _ => vts_nil) (fun _ _ _ _ _ => (ve_not (ve_callO k_law_is_nought (hr.mono (by decide)) (va_cons (vo_e (ve_callO k_law_wave_row (hr.mono (by decide)) (va_cons (vo_e (ve_var 5)) (va_cons (vo_e (ve_var 13)) va_nil)))) va_nil)))))
  (vs_cons (v_set (i := 7) S.nd (ve_tup (va_cons (vo_e (ve_var 4)) (va_cons (vo_e (ve_or (ve_ix (vo_var 6) (vo_e ve_int)) (ve_one (ve_ix (vo_var 6) (vo_e ve_int))))) va_nil))))
  (vs_cons (v_if (vt_cmp' or_neS (vo_e (ve_blt (br_repr gd hu) (T.2.1 _ (List.mem_of_getElem? (i := 14) rfl)) (va_cons (vo_e (ve_lst (va_cons (vo_e (ve_callOG gd k_pulls (hr.mono (by decide)) (va_cons (vo_e (ve_var 2)) va_nil))) (va_cons (vo_e (ve_callKG (ks := ["winding"]) [0] gd k_pulls (hr.mono (by decide)) (fun _ _ _ _ _ _ ws hl => match ws, hl with | _ :: _, _ => rfl | [], hl => absurd hl (by simp [permL])) (vk_cons (vo_e (ve_var 2)) vk_nil))) va_nil)))) va_nil))) (vo_e (ve_blt (br_repr gd hu) (T.2.1 _ (List.mem_of_getElem? (i := 14) rfl)) (va_cons (vo_e (ve_lst (va_cons (vo_e (ve_var 7)) (va_cons (vo_e (ve_var 7)) va_nil)))) va_nil))))
  (vs_cons (v_ret ve_bl)
  vs_nil)
  vs_nil)
  (vs_cons (v_if (vt_cmp' or_neS (vo_e (ve_blt (br_repr gd hu) (T.2.1 _ (List.mem_of_getElem? (i := 14) rfl)) (va_cons (vo_e (ve_lst (va_cons (vo_e (ve_callO k_has_standing (hr.mono (by decide)) (va_cons (vo_e (ve_var 2)) (va_cons (vo_e ve_int) va_nil)))) (va_cons (vo_e (ve_callO k_has_beating (hr.mono (by decide)) (va_cons (vo_e (ve_var 2)) (va_cons (vo_e ve_int) va_nil)))) (va_cons (vo_e (ve_callO k_has_beating (hr.mono (by decide)) (va_cons (vo_e (ve_var 2)) (va_cons (vo_e (ve_neg (vo_e ve_int))) va_nil)))) va_nil))))) va_nil))) (vo_e (ve_blt (br_repr gd hu) (T.2.1 _ (List.mem_of_getElem? (i := 14) rfl)) (va_cons (vo_e (ve_op or_add (vo_e (ve_lst (va_cons (vo_e (ve_var 4)) va_nil))) (vo_var 6))) va_nil))))
  (vs_cons (v_ret ve_bl)
  vs_nil)
  vs_nil)
  (vs_cons (v_if (vt_cmp' (or_eq hu) (vo_var 7) (vo_e (ve_tup (va_cons (vo_e ve_bl) (va_cons (vo_e ve_bl) va_nil)))))
  (vs_cons (v_ret (ve_cmp or_notIn (vo_e ve_bl) (vo_var 9)))
  vs_nil)
  vs_nil)
  (vs_cons (v_ret (ve_cmp or_le (vo_e (ve_blt br_len (T.2.1 _ (List.mem_of_getElem? (i := 0) rfl)) (va_cons (vo_e (ve_lc (own := [("each", 12)]) rfl S.nd (blkOk_by (by kernel_rfl)) (vi_seq (ve_sl (vo_var 9) vp_none (vp_some ve_int))) (fun _ _ _ _ _ => (vg_name (i := 12) S.nd)) (fun _ _ _ _ _ => (vts_one (vt_not (vt_val (ve_var 12))))) (fun _ _ _ _ _ => (ve_var 12)))) va_nil))) (vo_e ve_int)))
  vs_nil)))))))))))))
theorem sc_law0 : FnScope ["script", "turn"] ["script"] (defScope (top 83)) := ⟨rfl, rfl, rfl, by decide +kernel, rfl, by decide +kernel, by decide +kernel⟩
theorem ok_law0 (T : Txt K mg) : OkG P w K mg base 10 "law" (top 83) ["script"] [] fs_law0 := by
  have S := sc_law0
  have k_law_right := ok_law_right (P := P) (w := w) (base := base) T
  have k_law_urn := ok_law_urn (P := P) (w := w) (base := base) T
  refine vfnGO (T.1 _ (List.mem_of_getElem? (i := 60) rfl)) S (fun _ _ _ _ _ _ us hl => match us, hl with | [_], _ => rfl) fun C cdv A outer s H E _ gd hr => ⟨b_law0, ?_, sem_law0⟩
  exact (vs_cons (v_ret (ve_blt (br_all rfl) (T.2.1 _ (List.mem_of_getElem? (i := 10) rfl)) (va_cons (vo_e (ve_lc (own := [("turn", 1)]) rfl S.nd (blkOk_by (by kernel_rfl)) (vi_range1 (T.2.1 _ (List.mem_of_getElem? (i := 1) rfl)) (va_cons (vo_e (ve_blt (br_max rfl) (T.2.1 _ (List.mem_of_getElem? (i := 3) rfl)) (va_cons (vo_e ve_int) (va_cons (vo_e (ve_blt (br_min rfl) (T.2.1 _ (List.mem_of_getElem? (i := 15) rfl)) (va_cons (vo_e (ve_blt br_len (T.2.1 _ (List.mem_of_getElem? (i := 0) rfl)) (va_cons (vo_var 0) va_nil))) (va_cons (vo_e ve_int) va_nil)))) va_nil)))) va_nil)) (fun _ _ _ _ _ => (vg_name (i := 1) S.nd)) (fun _ _ _ _ _ => vts_nil) (fun _ _ _ _ _ => (ve_callT1G gd k_law_right (hr.mono (by decide)) (ve_callO k_law_urn (hr.mono (by decide)) (va_cons (vo_e (ve_var 0)) (va_cons (vo_e (ve_var 1)) va_nil))))))) va_nil)))
  vs_nil)

end
end K75

-- Ek75
namespace K75
open PySem PySem.Spec L2 VL PyProof.Rows K76
theorem fin {w : World} {K : PySem.W.Frag} {mg : Str → Option Value} {fa : Addr} {P : Program} (hfa : mg "law" = some (.ref fa)) (T : Txt K mg) :
    ∃ fd : FuncData, (∀ (s : Shared) (u : Value), BindsTo s fd ⟨[u], []⟩ [("script", u)]) ∧ ∀ base : Heap, K.In base → base.Ns mainGlobals mg → FnG P w K mg base 10 fa fd ["script"] (spOf K 1 [] fs_law0) := by
  obtain ⟨f, fd, hm, F⟩ := T.1 _ (List.mem_of_getElem? (i := 60) rfl : ((("law" : Str), top 83)) ∈ defs)
  have e := hfa.symm.trans hm
  cases e
  obtain ⟨oc, od, kV, doc, pm, an, cdv, ct, osl, rfl, lk, hcd⟩ := F.ex
  refine ⟨PySem.W.fnOf "law" "law" (defArgs (top 83)) (defBody (top 83)) (defScope (top 83)) .none kV doc pm an cdv ct, fun s u => .of_eq rfl, fun base hK hN => ?_⟩
  have G := ok_law0 (P := P) (w := w) (base := base) T
  exact VL.OkG.fn G hm lk
end K75

open PySem PySem.W PyProof.Rows in
set_option maxRecDepth 100000 in
set_option maxHeartbeats 0 in
theorem PySem.Challenge.cw_fieldslots_k75_whole_pulls_at_all_moment_holds : PySem.Challenge.rw_fieldslots_k75_whole_pulls_at_all_moment.Holds := by
  w_on; o_law; k_head; (case hw => w_witness2)
  k_fill
  refine VL.walk_ofG (l := PySem.Challenge.rw_fieldslots_k75_whole_pulls_at_all_moment) (n := 63) (k := 10) (x := "script") (fs := K75.fs_law0) rfl (by decide) rfl ⟨rfl, by decide, by decide⟩ (fun w h Y => PySem.W.kIn_of Y) ?F K75.law_keeps
  case F =>
    intro w mg fa h KX G hmg
    refine K75.fin hmg ?_
    refine' ⟨List.forall_mem_cons.mpr ⟨?d0, List.forall_mem_cons.mpr ⟨?d1, List.forall_mem_cons.mpr ⟨?d2, List.forall_mem_cons.mpr ⟨?d3, List.forall_mem_cons.mpr ⟨?d4, List.forall_mem_cons.mpr ⟨?d5, List.forall_mem_cons.mpr ⟨?d6, List.forall_mem_cons.mpr ⟨?d7, List.forall_mem_cons.mpr ⟨?d8, List.forall_mem_cons.mpr ⟨?d9, List.forall_mem_cons.mpr ⟨?d10, List.forall_mem_cons.mpr ⟨?d11, List.forall_mem_cons.mpr ⟨?d12, List.forall_mem_cons.mpr ⟨?d13, List.forall_mem_cons.mpr ⟨?d14, List.forall_mem_cons.mpr ⟨?d15, List.forall_mem_cons.mpr ⟨?d16, List.forall_mem_cons.mpr ⟨?d17, List.forall_mem_cons.mpr ⟨?d18, List.forall_mem_cons.mpr ⟨?d19, List.forall_mem_cons.mpr ⟨?d20, List.forall_mem_cons.mpr ⟨?d21, List.forall_mem_cons.mpr ⟨?d22, List.forall_mem_cons.mpr ⟨?d23, List.forall_mem_cons.mpr ⟨?d24, List.forall_mem_cons.mpr ⟨?d25, List.forall_mem_cons.mpr ⟨?d26, List.forall_mem_cons.mpr ⟨?d27, List.forall_mem_cons.mpr ⟨?d28, List.forall_mem_cons.mpr ⟨?d29, List.forall_mem_cons.mpr ⟨?d30, List.forall_mem_cons.mpr ⟨?d31, List.forall_mem_cons.mpr ⟨?d32, List.forall_mem_cons.mpr ⟨?d33, List.forall_mem_cons.mpr ⟨?d34, List.forall_mem_cons.mpr ⟨?d35, List.forall_mem_cons.mpr ⟨?d36, List.forall_mem_cons.mpr ⟨?d37, List.forall_mem_cons.mpr ⟨?d38, List.forall_mem_cons.mpr ⟨?d39, List.forall_mem_cons.mpr ⟨?d40, List.forall_mem_cons.mpr ⟨?d41, List.forall_mem_cons.mpr ⟨?d42, List.forall_mem_cons.mpr ⟨?d43, List.forall_mem_cons.mpr ⟨?d44, List.forall_mem_cons.mpr ⟨?d45, List.forall_mem_cons.mpr ⟨?d46, List.forall_mem_cons.mpr ⟨?d47, List.forall_mem_cons.mpr ⟨?d48, List.forall_mem_cons.mpr ⟨?d49, List.forall_mem_cons.mpr ⟨?d50, List.forall_mem_cons.mpr ⟨?d51, List.forall_mem_cons.mpr ⟨?d52, List.forall_mem_cons.mpr ⟨?d53, List.forall_mem_cons.mpr ⟨?d54, List.forall_mem_cons.mpr ⟨?d55, List.forall_mem_cons.mpr ⟨?d56, List.forall_mem_cons.mpr ⟨?d57, List.forall_mem_cons.mpr ⟨?d58, List.forall_mem_cons.mpr ⟨?d59, List.forall_mem_cons.mpr ⟨?d60, fun _ z => nomatch z⟩⟩⟩⟩⟩⟩⟩⟩⟩⟩⟩⟩⟩⟩⟩⟩⟩⟩⟩⟩⟩⟩⟩⟩⟩⟩⟩⟩⟩⟩⟩⟩⟩⟩⟩⟩⟩⟩⟩⟩⟩⟩⟩⟩⟩⟩⟩⟩⟩⟩⟩⟩⟩⟩⟩⟩⟩⟩⟩⟩⟩, List.forall_mem_cons.mpr ⟨PySem.W.mg_none_of KX G ?b0, List.forall_mem_cons.mpr ⟨PySem.W.mg_none_of KX G ?b1, List.forall_mem_cons.mpr ⟨PySem.W.mg_none_of KX G ?b2, List.forall_mem_cons.mpr ⟨PySem.W.mg_none_of KX G ?b3, List.forall_mem_cons.mpr ⟨PySem.W.mg_none_of KX G ?b4, List.forall_mem_cons.mpr ⟨PySem.W.mg_none_of KX G ?b5, List.forall_mem_cons.mpr ⟨PySem.W.mg_none_of KX G ?b6, List.forall_mem_cons.mpr ⟨PySem.W.mg_none_of KX G ?b7, List.forall_mem_cons.mpr ⟨PySem.W.mg_none_of KX G ?b8, List.forall_mem_cons.mpr ⟨PySem.W.mg_none_of KX G ?b9, List.forall_mem_cons.mpr ⟨PySem.W.mg_none_of KX G ?b10, List.forall_mem_cons.mpr ⟨PySem.W.mg_none_of KX G ?b11, List.forall_mem_cons.mpr ⟨PySem.W.mg_none_of KX G ?b12, List.forall_mem_cons.mpr ⟨PySem.W.mg_none_of KX G ?b13, List.forall_mem_cons.mpr ⟨PySem.W.mg_none_of KX G ?b14, List.forall_mem_cons.mpr ⟨PySem.W.mg_none_of KX G ?b15, fun _ z => nomatch z⟩⟩⟩⟩⟩⟩⟩⟩⟩⟩⟩⟩⟩⟩⟩⟩, List.forall_mem_cons.mpr ⟨VL.cst_mk KX G ?c0, List.forall_mem_cons.mpr ⟨VL.cst_mk KX G ?c1, List.forall_mem_cons.mpr ⟨VL.cst_mk KX G ?c2, List.forall_mem_cons.mpr ⟨VL.cst_mk KX G ?c3, List.forall_mem_cons.mpr ⟨VL.cst_mk KX G ?c4, fun _ z => nomatch z⟩⟩⟩⟩⟩, PySem.W.mg_of KX G ?g⟩
    (case b0 => k_is)
    (case b1 => k_is)
    (case b2 => k_is)
    (case b3 => k_is)
    (case b4 => k_is)
    (case b5 => k_is)
    (case b6 => k_is)
    (case b7 => k_is)
    (case b8 => k_is)
    (case b9 => k_is)
    (case b10 => k_is)
    (case b11 => k_is)
    (case b12 => k_is)
    (case b13 => k_is)
    (case b14 => k_is)
    (case b15 => k_is)
    (case c0 => k_is)
    (case c1 => k_is)
    (case c2 => k_is)
    (case c3 => k_is)
    (case c4 => k_is)
    (case g => k_is)
    (case d0 => (refine' VL.At.mk KX G ?a ?l ?c ?k; (case a => k_is); (case l => k_is); (case c => k_is); (case k => k_is)))
    (case d1 => (refine' VL.At.mk KX G ?a ?l ?c ?k; (case a => k_is); (case l => k_is); (case c => k_is); (case k => k_is)))
    (case d2 => (refine' VL.At.mk KX G ?a ?l ?c ?k; (case a => k_is); (case l => k_is); (case c => k_is); (case k => k_is)))
    (case d3 => (refine' VL.At.mk KX G ?a ?l ?c ?k; (case a => k_is); (case l => k_is); (case c => k_is); (case k => k_is)))
    (case d4 => (refine' VL.At.mk KX G ?a ?l ?c ?k; (case a => k_is); (case l => k_is); (case c => k_is); (case k => k_is)))
    (case d5 => (refine' VL.At.mk KX G ?a ?l ?c ?k; (case a => k_is); (case l => k_is); (case c => k_is); (case k => k_is)))
    (case d6 => (refine' VL.At.mk KX G ?a ?l ?c ?k; (case a => k_is); (case l => k_is); (case c => k_is); (case k => k_is)))
    (case d7 => (refine' VL.At.mk KX G ?a ?l ?c ?k; (case a => k_is); (case l => k_is); (case c => k_is); (case k => k_is)))
    (case d8 => (refine' VL.At.mk KX G ?a ?l ?c ?k; (case a => k_is); (case l => k_is); (case c => k_is); (case k => k_is)))
    (case d9 => (refine' VL.At.mk KX G ?a ?l ?c ?k; (case a => k_is); (case l => k_is); (case c => k_is); (case k => k_is)))
    (case d10 => (refine' VL.At.mk KX G ?a ?l ?c ?k; (case a => k_is); (case l => k_is); (case c => k_is); (case k => k_is)))
    (case d11 => (refine' VL.At.mk KX G ?a ?l ?c ?k; (case a => k_is); (case l => k_is); (case c => k_is); (case k => k_is)))
    (case d12 => (refine' VL.At.mk KX G ?a ?l ?c ?k; (case a => k_is); (case l => k_is); (case c => k_is); (case k => k_is)))
    (case d13 => (refine' VL.At.mk KX G ?a ?l ?c ?k; (case a => k_is); (case l => k_is); (case c => k_is); (case k => k_is)))
    (case d14 => (refine' VL.At.mk KX G ?a ?l ?c ?k; (case a => k_is); (case l => k_is); (case c => k_is); (case k => k_is)))
    (case d15 => (refine' VL.At.mk KX G ?a ?l ?c ?k; (case a => k_is); (case l => k_is); (case c => k_is); (case k => k_is)))
    (case d16 => (refine' VL.At.mk KX G ?a ?l ?c ?k; (case a => k_is); (case l => k_is); (case c => k_is); (case k => k_is)))
    (case d17 => (refine' VL.At.mk KX G ?a ?l ?c ?k; (case a => k_is); (case l => k_is); (case c => k_is); (case k => k_is)))
    (case d18 => (refine' VL.At.mk KX G ?a ?l ?c ?k; (case a => k_is); (case l => k_is); (case c => k_is); (case k => k_is)))
    (case d19 => (refine' VL.At.mk KX G ?a ?l ?c ?k; (case a => k_is); (case l => k_is); (case c => k_is); (case k => k_is)))
    (case d20 => (refine' VL.At.mk KX G ?a ?l ?c ?k; (case a => k_is); (case l => k_is); (case c => k_is); (case k => k_is)))
    (case d21 => (refine' VL.At.mk KX G ?a ?l ?c ?k; (case a => k_is); (case l => k_is); (case c => k_is); (case k => k_is)))
    (case d22 => (refine' VL.At.mk KX G ?a ?l ?c ?k; (case a => k_is); (case l => k_is); (case c => k_is); (case k => k_is)))
    (case d23 => (refine' VL.At.mk KX G ?a ?l ?c ?k; (case a => k_is); (case l => k_is); (case c => k_is); (case k => k_is)))
    (case d24 => (refine' VL.At.mk KX G ?a ?l ?c ?k; (case a => k_is); (case l => k_is); (case c => k_is); (case k => k_is)))
    (case d25 => (refine' VL.At.mk KX G ?a ?l ?c ?k; (case a => k_is); (case l => k_is); (case c => k_is); (case k => k_is)))
    (case d26 => (refine' VL.At.mk KX G ?a ?l ?c ?k; (case a => k_is); (case l => k_is); (case c => k_is); (case k => k_is)))
    (case d27 => (refine' VL.At.mk KX G ?a ?l ?c ?k; (case a => k_is); (case l => k_is); (case c => k_is); (case k => k_is)))
    (case d28 => (refine' VL.At.mk KX G ?a ?l ?c ?k; (case a => k_is); (case l => k_is); (case c => k_is); (case k => k_is)))
    (case d29 => (refine' VL.At.mk KX G ?a ?l ?c ?k; (case a => k_is); (case l => k_is); (case c => k_is); (case k => k_is)))
    (case d30 => (refine' VL.At.mk KX G ?a ?l ?c ?k; (case a => k_is); (case l => k_is); (case c => k_is); (case k => k_is)))
    (case d31 => (refine' VL.At.mk KX G ?a ?l ?c ?k; (case a => k_is); (case l => k_is); (case c => k_is); (case k => k_is)))
    (case d32 => (refine' VL.At.mk KX G ?a ?l ?c ?k; (case a => k_is); (case l => k_is); (case c => k_is); (case k => k_is)))
    (case d33 => (refine' VL.At.mk KX G ?a ?l ?c ?k; (case a => k_is); (case l => k_is); (case c => k_is); (case k => k_is)))
    (case d34 => (refine' VL.At.mk KX G ?a ?l ?c ?k; (case a => k_is); (case l => k_is); (case c => k_is); (case k => k_is)))
    (case d35 => (refine' VL.At.mk KX G ?a ?l ?c ?k; (case a => k_is); (case l => k_is); (case c => k_is); (case k => k_is)))
    (case d36 => (refine' VL.At.mk KX G ?a ?l ?c ?k; (case a => k_is); (case l => k_is); (case c => k_is); (case k => k_is)))
    (case d37 => (refine' VL.At.mk KX G ?a ?l ?c ?k; (case a => k_is); (case l => k_is); (case c => k_is); (case k => k_is)))
    (case d38 => (refine' VL.At.mk KX G ?a ?l ?c ?k; (case a => k_is); (case l => k_is); (case c => k_is); (case k => k_is)))
    (case d39 => (refine' VL.At.mk KX G ?a ?l ?c ?k; (case a => k_is); (case l => k_is); (case c => k_is); (case k => k_is)))
    (case d40 => (refine' VL.At.mk KX G ?a ?l ?c ?k; (case a => k_is); (case l => k_is); (case c => k_is); (case k => k_is)))
    (case d41 => (refine' VL.At.mk KX G ?a ?l ?c ?k; (case a => k_is); (case l => k_is); (case c => k_is); (case k => k_is)))
    (case d42 => (refine' VL.At.mk KX G ?a ?l ?c ?k; (case a => k_is); (case l => k_is); (case c => k_is); (case k => k_is)))
    (case d43 => (refine' VL.At.mk KX G ?a ?l ?c ?k; (case a => k_is); (case l => k_is); (case c => k_is); (case k => k_is)))
    (case d44 => (refine' VL.At.mk KX G ?a ?l ?c ?k; (case a => k_is); (case l => k_is); (case c => k_is); (case k => k_is)))
    (case d45 => (refine' VL.At.mk KX G ?a ?l ?c ?k; (case a => k_is); (case l => k_is); (case c => k_is); (case k => k_is)))
    (case d46 => (refine' VL.At.mk KX G ?a ?l ?c ?k; (case a => k_is); (case l => k_is); (case c => k_is); (case k => k_is)))
    (case d47 => (refine' VL.At.mk KX G ?a ?l ?c ?k; (case a => k_is); (case l => k_is); (case c => k_is); (case k => k_is)))
    (case d48 => (refine' VL.At.mk KX G ?a ?l ?c ?k; (case a => k_is); (case l => k_is); (case c => k_is); (case k => k_is)))
    (case d49 => (refine' VL.At.mk KX G ?a ?l ?c ?k; (case a => k_is); (case l => k_is); (case c => k_is); (case k => k_is)))
    (case d50 => (refine' VL.At.mk KX G ?a ?l ?c ?k; (case a => k_is); (case l => k_is); (case c => k_is); (case k => k_is)))
    (case d51 => (refine' VL.At.mk KX G ?a ?l ?c ?k; (case a => k_is); (case l => k_is); (case c => k_is); (case k => k_is)))
    (case d52 => (refine' VL.At.mk KX G ?a ?l ?c ?k; (case a => k_is); (case l => k_is); (case c => k_is); (case k => k_is)))
    (case d53 => (refine' VL.At.mk KX G ?a ?l ?c ?k; (case a => k_is); (case l => k_is); (case c => k_is); (case k => k_is)))
    (case d54 => (refine' VL.At.mk KX G ?a ?l ?c ?k; (case a => k_is); (case l => k_is); (case c => k_is); (case k => k_is)))
    (case d55 => (refine' VL.At.mk KX G ?a ?l ?c ?k; (case a => k_is); (case l => k_is); (case c => k_is); (case k => k_is)))
    (case d56 => (refine' VL.At.mk KX G ?a ?l ?c ?k; (case a => k_is); (case l => k_is); (case c => k_is); (case k => k_is)))
    (case d57 => (refine' VL.At.mk KX G ?a ?l ?c ?k; (case a => k_is); (case l => k_is); (case c => k_is); (case k => k_is)))
    (case d58 => (refine' VL.At.mk KX G ?a ?l ?c ?k; (case a => k_is); (case l => k_is); (case c => k_is); (case k => k_is)))
    (case d59 => (refine' VL.At.mk KX G ?a ?l ?c ?k; (case a => k_is); (case l => k_is); (case c => k_is); (case k => k_is)))
    (case d60 => (refine' VL.At.mk KX G ?a ?l ?c ?k; (case a => k_is); (case l => k_is); (case c => k_is); (case k => k_is)))

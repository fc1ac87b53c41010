import PyProof.Rows.All
import Wide.All
import OpenK.AllK
import Wide.FinOn
import PySem.Challenge.RW_oddsmith_k54_whole_texts_of_answers
import HandS.ForMost
import HandS.ForExc
import HandS.IsInst
import HandS.Wide
import HandS.TupAny
import HandS.Style
import HandS.Deep
import HandS.More
import HandS.Conv
import HandS.ExcCtx
import HandS.RaiseMore
import HandS.CallSlots
import KE.KExcStr
import HandS.WideMore
import PyProof.StrOps2
import KE.KRevSl
import KE.KIntText
import PyProof.Rows.StrOr
import KE.DatumOrd
import PyProof.ReprRoads
import HandS.ReplaceLit
import HandS.Ends
import HandS.Head0
import HandS.Head1
import HandS.Head2
import HandS.HeadEnd
import HandS.HeadHook1
import HandS.HeadHook2
import HandS.HeadHook3
import HandS.EndBits
import HandS.Codes
import KE.IntTextText
import KE.IntTextLaws
import PyProof.ReprLen
set_option Elab.async false
set_option linter.all false
set_option maxRecDepth 100000
set_option maxHeartbeats 1000000
/-! MiniPy, 1: data, stores, how they stand in the abstract heap. -/
namespace MP
open PySem PySem.Spec PyProof.Rows L2

/-- what stands still: the written part, and its dicts of texts -/
structure KD where
  pr : Addr → List (Str × Str) → Prop
  ex : List Addr
structure KF where
  F : PySem.W.Frag
  kd : KD
/-- an address that values may speak of -/
def NI (K : KF) (ρ : List Addr) (a : Addr) : Prop := a ∉ ρ ∧ a ∉ K.kd.ex

inductive D where
  | non | bl (b : Bool) | int (i : Int) | str (x : Str)
  | tup (xs : List D) | lst (xs : List D) | scr (ns : List Int) | loc (n : Nat)
  | dct (kvs : List (Str × Str))
  deriving Inhabited

/-- what a location holds -/
inductive Ob where
  | lst (xs : List D)
  | ins (c : Nat) (fs : List (Str × D))

abbrev Sto := List Ob

/-- what a reckoning comes to -/
inductive R (α : Type) where
  | ok (a : α) (S : Sto) | exc (c : Nat) (m : D) (S : Sto) | bad

def R.bind {α β : Type} (r : R α) (f : α → Sto → R β) : R β :=
  match r with
  | .ok a S => f a S
  | .exc c m S => .exc c m S
  | .bad => .bad

def KLst (K : PySem.W.Frag) (a : Addr) (xs : List V) : Prop :=
  ∃ (o : Obj) (its : Array Value) (n : Nat), K.lookup a = some o ∧ o.cls = .type "list" ∧ o.dict = none ∧ o.data = .seq its n ∧ its.size ≤ sizeLine ∧ Vals xs its.toList

mutual
def Rep (K : KF) (ρ : List Addr) (H : Hp) : D → V → Prop
  | .non, v => v = .non
  | .bl b, v => v = .bl b
  | .int i, v => v = .int i
  | .str x, v => v = .str x
  | .tup ds, v => ∃ a vs, v = .ref a ∧ SqT K.F H a vs ∧ Reps K ρ H ds vs
  | .lst ds, v => ∃ a vs, v = .ref a ∧ H a = some (.lst vs) ∧ NI K ρ a ∧ Reps K ρ H ds vs
  | .scr ns, v => ∃ a, v = .ref a ∧ ((Rd H a (.lst (ns.map V.int)) ∧ NI K ρ a) ∨ KLst K.F a (ns.map V.int))
  | .loc n, v => ∃ a, v = .ref a ∧ ρ[n]? = some a
  | .dct kvs, v => ∃ a, v = .ref a ∧ ((H a = some (.dK (kvs.map fun p => (Sum.inr p.1, V.str p.2))) ∧ NI K ρ a) ∨ K.kd.pr a kvs)
def Reps (K : KF) (ρ : List Addr) (H : Hp) : List D → List V → Prop
  | [], vs => vs = []
  | d :: ds, vs => ∃ v r, vs = v :: r ∧ Rep K ρ H d v ∧ Reps K ρ H ds r
end

/-- the heap behind: nothing that is not of the store has changed, the store may have grown -/
structure Ext (ρ : List Addr) (H : Hp) (ρ' : List Addr) (H' : Hp) : Prop where
  pre : ∃ t, ρ' = ρ ++ t
  per : ∀ a o, H a = some o → a ∉ ρ → H' a = some o
  new : ∀ a, a ∈ ρ' → a ∉ ρ → H a = none

/-- the store stands in the heap -/
structure SR (K : KF) (cls : Nat → Addr) (ρ : List Addr) (S : Sto) (H : Hp) : Prop where
  len : ρ.length = S.length
  nd : ρ.Nodup
  lst : ∀ (n : Nat) (ds : List D) (a : Addr), S[n]? = some (.lst ds) → ρ[n]? = some a → ∃ vs, H a = some (.lst vs) ∧ Reps K ρ H ds vs
  ins : ∀ (n : Nat) (c : Nat) (fs : List (Str × D)) (a : Addr), S[n]? = some (.ins c fs) → ρ[n]? = some a →
    ∃ dx gs, H a = some (.ins (cls c) dx gs) ∧ gs.map (·.1) = fs.map (·.1) ∧ Reps K ρ H (fs.map (·.2)) (gs.map (·.2)) ∧ H dx = some (.own a)
  exo : ∀ a ∈ K.kd.ex, a ∉ ρ ∧ ∃ vs, H a = some (.lst vs)

section
variable {K : KF} {cls : Nat → Addr} {ρ ρ' ρ2 : List Addr} {H H' H2 : Hp} {S : Sto}

theorem Ext.refl : Ext ρ H ρ H := ⟨⟨[], by simp⟩, fun _ _ h _ => h, fun _ h n => absurd h n⟩
theorem Ext.trans (x : Ext ρ H ρ' H') (y : Ext ρ' H' ρ2 H2) : Ext ρ H ρ2 H2 := by
  obtain ⟨t, e⟩ := x.pre
  obtain ⟨u, e2⟩ := y.pre
  have hn : ∀ a o, H a = some o → a ∉ ρ → a ∉ ρ' := fun a o h n m => by
    rw [x.new a m n] at h; cases h
  refine ⟨⟨t ++ u, by rw [e2, e, List.append_assoc]⟩, fun a o h n => y.per a o (x.per a o h n) (hn a o h n), fun a m n => ?_⟩
  by_cases q : a ∈ ρ'
  · exact x.new a q n
  · cases z : H a with
    | none => rfl
    | some o =>
      have z2 := x.per a o z n
      rw [y.new a m q] at z2; cases z2
theorem Ext.out (x : Ext ρ H ρ' H') {a : Addr} {o : HO} (h : H a = some o) (n : a ∉ ρ) : H' a = some o ∧ a ∉ ρ' :=
  ⟨x.per a o h n, fun m => by rw [x.new a m n] at h; cases h⟩
theorem Ext.at_ (x : Ext ρ H ρ' H') {n : Nat} {a : Addr} (h : ρ[n]? = some a) : ρ'[n]? = some a := by
  obtain ⟨t, e⟩ := x.pre
  rw [e, List.getElem?_append_left (List.getElem?_eq_some_iff.mp h).1]; exact h
/-- an address of the store holds a list or an instance -/
theorem SR.mem (s : SR K cls ρ S H) {a : Addr} (h : a ∈ ρ) : (∃ vs, H a = some (.lst vs)) ∨ ∃ C dx gs, H a = some (.ins C dx gs) := by
  obtain ⟨n, hn, e⟩ := List.mem_iff_getElem.mp h
  have e1 : ρ[n]? = some a := by rw [List.getElem?_eq_getElem hn, e]
  have hn2 : n < S.length := by rw [← s.len]; exact hn
  have e2 : S[n]? = some S[n] := List.getElem?_eq_getElem hn2
  cases q : S[n] with
  | lst ds => rw [q] at e2; obtain ⟨vs, z, _⟩ := s.lst n ds a e2 e1; exact .inl ⟨vs, z⟩
  | ins c fs => rw [q] at e2; obtain ⟨dx, gs, z, _⟩ := s.ins n c fs a e2 e1; exact .inr ⟨_, dx, gs, z⟩
theorem SR.notTup (s : SR K cls ρ S H) {a : Addr} {xs : List V} (h : Rd H a (.tup xs)) : a ∉ ρ := fun m => by
  rcases s.mem m with ⟨vs, z⟩ | ⟨C, dx, gs, z⟩ <;> rcases h with h | ⟨o, h⟩ <;> rw [z] at h <;> cases h
theorem SR.notOwn (s : SR K cls ρ S H) {a b : Addr} (h : H a = some (.own b)) : a ∉ ρ := fun m => by
  rcases s.mem m with ⟨vs, z⟩ | ⟨C, dx, gs, z⟩ <;> rw [z] at h <;> cases h
theorem Ext.rd (x : Ext ρ H ρ' H') {a : Addr} {u : HO} (h : Rd H a u) (n : a ∉ ρ) : Rd H' a u ∧ a ∉ ρ' := by
  rcases h with h | ⟨o, h⟩
  · exact ⟨.inl (x.out h n).1, (x.out h n).2⟩
  · exact ⟨.inr ⟨o, (x.out h n).1⟩, (x.out h n).2⟩
theorem Ext.sqt (x : Ext ρ H ρ' H') (s : ∀ {a : Addr} {xs : List V}, Rd H a (.tup xs) → a ∉ ρ) {a : Addr} {xs : List V} (h : SqT K.F H a xs) : SqT K.F H' a xs := by
  rcases h with h | h
  · exact .inl (x.rd h (s h)).1
  · exact .inr h
mutual
theorem Rep.ext' (x : Ext ρ H ρ' H') (s : ∀ {a : Addr} {xs : List V}, Rd H a (.tup xs) → a ∉ ρ) : ∀ {d : D} {v : V}, Rep K ρ H d v → Rep K ρ' H' d v
  | .non, _, h => h
  | .bl _, _, h => h
  | .int _, _, h => h
  | .str _, _, h => h
  | .tup ds, _, h => by
    unfold Rep at h ⊢
    obtain ⟨a, vs, e, q, r⟩ := h
    exact ⟨a, vs, e, x.sqt s q, Reps.ext' x s r⟩
  | .lst ds, _, h => by
    unfold Rep at h ⊢
    obtain ⟨a, vs, e, q, n, r⟩ := h
    exact ⟨a, vs, e, (x.out q n.1).1, ⟨(x.out q n.1).2, n.2⟩, Reps.ext' x s r⟩
  | .scr ns, _, h => by
    unfold Rep at h ⊢
    obtain ⟨a, e, q⟩ := h
    refine ⟨a, e, ?_⟩
    rcases q with ⟨q, n⟩ | q
    · exact .inl ⟨(x.rd q n.1).1, (x.rd q n.1).2, n.2⟩
    · exact .inr q
  | .loc n, _, h => by
    unfold Rep at h ⊢
    obtain ⟨a, e, q⟩ := h
    exact ⟨a, e, x.at_ q⟩
  | .dct kvs, _, h => by
    unfold Rep at h ⊢
    obtain ⟨a, e, q⟩ := h
    refine ⟨a, e, ?_⟩
    rcases q with ⟨q, n⟩ | q
    · exact .inl ⟨(x.out q n.1).1, (x.out q n.1).2, n.2⟩
    · exact .inr q
theorem Reps.ext' (x : Ext ρ H ρ' H') (s : ∀ {a : Addr} {xs : List V}, Rd H a (.tup xs) → a ∉ ρ) : ∀ {ds : List D} {vs : List V}, Reps K ρ H ds vs → Reps K ρ' H' ds vs
  | [], _, h => h
  | d :: ds, _, h => by
    unfold Reps at h ⊢
    obtain ⟨v, r, e, h1, h2⟩ := h
    exact ⟨v, r, e, Rep.ext' x s h1, Reps.ext' x s h2⟩
end
theorem Rep.ext (x : Ext ρ H ρ' H') (s : SR K cls ρ S H) {d : D} {v : V} (r : Rep K ρ H d v) : Rep K ρ' H' d v := Rep.ext' x (fun h => s.notTup h) r
theorem Reps.ext (x : Ext ρ H ρ' H') (s : SR K cls ρ S H) {ds : List D} {vs : List V} (r : Reps K ρ H ds vs) : Reps K ρ' H' ds vs := Reps.ext' x (fun h => s.notTup h) r
theorem Reps.len : ∀ {ds : List D} {vs : List V}, Reps K ρ H ds vs → vs.length = ds.length
  | [], _, h => by unfold Reps at h; rw [h]; rfl
  | d :: ds, _, h => by
    unfold Reps at h
    obtain ⟨v, r, e, _, h2⟩ := h
    rw [e, List.length_cons, List.length_cons, Reps.len h2]
theorem Reps.get : ∀ {ds : List D} {vs : List V} {i : Nat} {d : D}, Reps K ρ H ds vs → ds[i]? = some d → ∃ v, vs[i]? = some v ∧ Rep K ρ H d v
  | [], _, _, _, _, e => by simp at e
  | d :: ds, _, 0, d', h, e => by
    unfold Reps at h
    obtain ⟨v, r, rfl, h1, h2⟩ := h
    simp at e
    subst e
    exact ⟨v, rfl, h1⟩
  | d :: ds, _, i + 1, d', h, e => by
    unfold Reps at h
    obtain ⟨v, r, rfl, h1, h2⟩ := h
    simp at e
    obtain ⟨v', e', q⟩ := Reps.get h2 e
    exact ⟨v', by simpa using e', q⟩
theorem Reps.append : ∀ {ds es : List D} {vs us : List V}, Reps K ρ H ds vs → Reps K ρ H es us → Reps K ρ H (ds ++ es) (vs ++ us)
  | [], _, _, _, h, g => by unfold Reps at h; rw [h]; exact g
  | d :: ds, es, _, us, h, g => by
    unfold Reps at h
    obtain ⟨v, r, rfl, h1, h2⟩ := h
    show Reps K ρ H (d :: (ds ++ es)) _
    unfold Reps
    exact ⟨v, r ++ us, rfl, h1, Reps.append h2 g⟩
theorem Reps.nil : Reps K ρ H [] [] := by unfold Reps; rfl
theorem Reps.cons {d : D} {v : V} {ds : List D} {vs : List V} (h : Rep K ρ H d v) (g : Reps K ρ H ds vs) : Reps K ρ H (d :: ds) (v :: vs) := by
  unfold Reps
  exact ⟨v, vs, rfl, h, g⟩
theorem Reps.take : ∀ {ds : List D} {vs : List V} (n : Nat), Reps K ρ H ds vs → Reps K ρ H (ds.take n) (vs.take n)
  | _, _, 0, _ => by simp; exact Reps.nil
  | [], _, n + 1, h => by unfold Reps at h; rw [h]; exact Reps.nil
  | d :: ds, _, n + 1, h => by
    unfold Reps at h
    obtain ⟨v, r, rfl, h1, h2⟩ := h
    exact Reps.cons h1 (Reps.take n h2)
theorem Reps.drop : ∀ {ds : List D} {vs : List V} (n : Nat), Reps K ρ H ds vs → Reps K ρ H (ds.drop n) (vs.drop n)
  | _, _, 0, h => h
  | [], _, n + 1, h => by unfold Reps at h; rw [h]; exact Reps.nil
  | d :: ds, _, n + 1, h => by
    unfold Reps at h
    obtain ⟨v, r, rfl, h1, h2⟩ := h
    exact Reps.drop n h2
theorem Reps.set : ∀ {ds : List D} {vs : List V} {d : D} {v : V} (i : Nat), Reps K ρ H ds vs → Rep K ρ H d v → Reps K ρ H (ds.set i d) (vs.set i v)
  | [], _, _, _, i, h, _ => by unfold Reps at h; rw [h]; exact Reps.nil
  | d :: ds, _, d', v', 0, h, g => by
    unfold Reps at h
    obtain ⟨v, r, rfl, h1, h2⟩ := h
    exact Reps.cons g h2
  | d :: ds, _, d', v', i + 1, h, g => by
    unfold Reps at h
    obtain ⟨v, r, rfl, h1, h2⟩ := h
    exact Reps.cons h1 (Reps.set i h2 g)
theorem Reps.rev : ∀ {ds : List D} {vs : List V}, Reps K ρ H ds vs → Reps K ρ H ds.reverse vs.reverse
  | [], _, h => by unfold Reps at h; rw [h]; exact Reps.nil
  | d :: ds, _, h => by
    unfold Reps at h
    obtain ⟨v, r, rfl, h1, h2⟩ := h
    rw [List.reverse_cons, List.reverse_cons]
    exact Reps.append (Reps.rev h2) (Reps.cons h1 Reps.nil)
theorem Reps.flat : ∀ {ds : List D} {vs : List V} (k : Nat), Reps K ρ H ds vs → Reps K ρ H (List.replicate k ds).flatten (List.replicate k vs).flatten
  | _, _, 0, _ => Reps.nil
  | ds, vs, k + 1, h => by
    rw [List.replicate_succ, List.flatten_cons, List.replicate_succ, List.flatten_cons]
    exact Reps.append h (Reps.flat k h)
theorem Reps.ints : ∀ {ns : List Int}, Reps K ρ H (ns.map D.int) (ns.map V.int)
  | [] => Reps.nil
  | n :: ns => Reps.cons (by unfold Rep; rfl) Reps.ints
theorem Reps.strs : ∀ {xs : List Str}, Reps K ρ H (xs.map D.str) (xs.map V.str)
  | [] => Reps.nil
  | n :: ns => Reps.cons (by unfold Rep; rfl) Reps.strs
theorem Reps.of_ints : ∀ {ns : List Int} {vs : List V}, Reps K ρ H (ns.map D.int) vs → vs = ns.map V.int
  | [], _, h => by unfold Reps at h; exact h
  | n :: ns, _, h => by
    have h : Reps K ρ H (D.int n :: ns.map D.int) _ := h
    unfold Reps at h
    obtain ⟨v, r, rfl, h1, h2⟩ := h
    unfold Rep at h1
    rw [h1, Reps.of_ints h2]; rfl
theorem Reps.of_strs : ∀ {ns : List Str} {vs : List V}, Reps K ρ H (ns.map D.str) vs → vs = ns.map V.str
  | [], _, h => by unfold Reps at h; exact h
  | n :: ns, _, h => by
    have h : Reps K ρ H (D.str n :: ns.map D.str) _ := h
    unfold Reps at h
    obtain ⟨v, r, rfl, h1, h2⟩ := h
    unfold Rep at h1
    rw [h1, Reps.of_strs h2]; rfl
theorem Reps.of_bls : ∀ {ns : List Bool} {vs : List V}, Reps K ρ H (ns.map D.bl) vs → vs = ns.map V.bl
  | [], _, h => by unfold Reps at h; exact h
  | n :: ns, _, h => by
    have h : Reps K ρ H (D.bl n :: ns.map D.bl) _ := h
    unfold Reps at h
    obtain ⟨v, r, rfl, h1, h2⟩ := h
    unfold Rep at h1
    rw [h1, Reps.of_bls h2]; rfl

/-! ### the steps -/
/-- the store in a heap behind, unchanged -/
theorem SR.ext0 (s : SR K cls ρ S H) (x : Ext ρ H ρ H') (same : ∀ a ∈ ρ, H' a = H a) : SR K cls ρ S H' := by
  refine ⟨s.len, s.nd, fun n ds a h g => ?_, fun n c fs a h g => ?_, fun a m => ⟨(s.exo a m).1, let ⟨vs, e⟩ := (s.exo a m).2; ⟨vs, x.per a _ e (s.exo a m).1⟩⟩⟩
  · obtain ⟨vs, e, r⟩ := s.lst n ds a h g
    exact ⟨vs, by rw [same a (List.mem_of_getElem? g)]; exact e, Reps.ext x s r⟩
  · obtain ⟨dx, gs, e, e2, r, nd⟩ := s.ins n c fs a h g
    exact ⟨dx, gs, by rw [same a (List.mem_of_getElem? g)]; exact e, e2, Reps.ext x s r, x.per _ _ nd (s.notOwn nd)⟩
/-- a new object that is not of the store -/
theorem Ext.fresh {p : Addr} {o : HO} (h : H p = none) : Ext ρ H ρ (upd H p o) :=
  ⟨⟨[], by simp⟩, fun a u e _ => by rw [upd_ne (ne_of_none e h)]; exact e, fun _ h n => absurd h n⟩
theorem SR.free (s : SR K cls ρ S H) {p : Addr} (h : H p = none) : p ∉ ρ := fun m => by
  rcases s.mem m with ⟨vs, z⟩ | ⟨C, dx, gs, z⟩ <;> rw [z] at h <;> cases h
theorem SR.ni (s : SR K cls ρ S H) {p : Addr} (h : H p = none) : NI K ρ p := ⟨s.free h, fun m => by
  obtain ⟨_, vs, e⟩ := s.exo p m
  rw [h] at e; cases e⟩
theorem SR.fresh (s : SR K cls ρ S H) {p : Addr} {o : HO} (h : H p = none) : SR K cls ρ S (upd H p o) :=
  s.ext0 (Ext.fresh h) fun a m => upd_ne fun e => s.free h (e ▸ m)
/-- a new location -/
theorem Ext.grow {p : Addr} {o : HO} (s : SR K cls ρ S H) (h : H p = none) : Ext ρ H (ρ ++ [p]) (upd H p o) :=
  ⟨⟨[p], rfl⟩, fun a u e _ => by rw [upd_ne (ne_of_none e h)]; exact e, fun a m n => by
    rcases List.mem_append.mp m with m | m
    · exact absurd m n
    · rw [List.mem_singleton.mp m]; exact h⟩
theorem SR.grow (s : SR K cls ρ S H) {p : Addr} {vs : List V} {ds : List D} (h : H p = none) (r : Reps K ρ H ds vs) : SR K cls (ρ ++ [p]) (S ++ [.lst ds]) (upd H p (.lst vs)) := by
  have x : Ext ρ H (ρ ++ [p]) (upd H p (.lst vs)) := Ext.grow s h
  have np := s.free h
  have at_ : ∀ {n : Nat} {a : Addr}, (ρ ++ [p])[n]? = some a → (ρ[n]? = some a ∧ n < ρ.length) ∨ (a = p ∧ n = ρ.length) := fun {n a} g => by
    by_cases hn : n < ρ.length
    · rw [List.getElem?_append_left hn] at g; exact .inl ⟨g, hn⟩
    · have := (List.getElem?_eq_some_iff.mp g).1
      simp at this
      have e : n = ρ.length := by omega
      subst e
      simp at g
      exact .inr ⟨g.symm, rfl⟩
  refine ⟨by simp [s.len], ?_, fun n es a hn g => ?_, fun n c fs a hn g => ?_, fun a m => ?_⟩
  · rw [List.nodup_append]
    exact ⟨s.nd, by simp, fun a ha b hb => by simp at hb; subst hb; intro e; subst e; exact np ha⟩
  · rcases at_ g with ⟨g, hl⟩ | ⟨rfl, e⟩
    · rw [List.getElem?_append_left (by rw [← s.len]; exact hl)] at hn
      obtain ⟨us, e, q⟩ := s.lst n es a hn g
      exact ⟨us, by rw [upd_ne (ne_of_none e h)]; exact e, Reps.ext x s q⟩
    · have e2 : n = S.length := by rw [e, s.len]
      rw [e2, List.getElem?_append_right (Nat.le_refl _)] at hn
      simp at hn
      subst hn
      exact ⟨vs, upd_same, Reps.ext x s r⟩
  · rcases at_ g with ⟨g, hl⟩ | ⟨rfl, e⟩
    · rw [List.getElem?_append_left (by rw [← s.len]; exact hl)] at hn
      obtain ⟨dx, gs, e, e2, q, nd⟩ := s.ins n c fs a hn g
      exact ⟨dx, gs, by rw [upd_ne (ne_of_none e h)]; exact e, e2, Reps.ext x s q, by rw [upd_ne (ne_of_none nd h)]; exact nd⟩
    · have e2 : n = S.length := by rw [e, s.len]
      rw [e2, List.getElem?_append_right (Nat.le_refl _)] at hn
      simp at hn
  · obtain ⟨h1, us, h2⟩ := s.exo a m
    exact ⟨(x.out h2 h1).2, us, (x.out h2 h1).1⟩
/-- a location is written -/
theorem SR.nth (s : SR K cls ρ S H) {n : Nat} {o : Ob} (h : S[n]? = some o) : ∃ a, ρ[n]? = some a := by
  have := (List.getElem?_eq_some_iff.mp h).1
  rw [← s.len] at this
  exact ⟨_, List.getElem?_eq_getElem this⟩
theorem Ext.put {a : Addr} {o : HO} (h : a ∈ ρ) : Ext ρ H ρ (upd H a o) :=
  ⟨⟨[], by simp⟩, fun b u e n => by rw [upd_ne (show b ≠ a from fun z => n (by rw [z]; exact h))]; exact e, fun _ h n => absurd h n⟩
theorem nodupAt {l : List Addr} (h : l.Nodup) {i j : Nat} {x : Addr} (a : l[i]? = some x) (b : l[j]? = some x) : i = j := by
  obtain ⟨h1, e1⟩ := List.getElem?_eq_some_iff.mp a
  obtain ⟨h2, e2⟩ := List.getElem?_eq_some_iff.mp b
  exact (List.getElem_inj h).mp (e1.trans e2.symm)
theorem SR.put (s : SR K cls ρ S H) {n : Nat} {o : Ob} {a : Addr} {vs : List V} {ds : List D} (h : S[n]? = some o) (g : ρ[n]? = some a) (r : Reps K ρ H ds vs) :
    SR K cls ρ (S.set n (.lst ds)) (upd H a (.lst vs)) := by
  have ha : a ∈ ρ := List.mem_of_getElem? g
  have x : Ext ρ H ρ (upd H a (.lst vs)) := Ext.put ha
  have hl : n < S.length := (List.getElem?_eq_some_iff.mp h).1
  refine ⟨by rw [List.length_set]; exact s.len, s.nd, fun m es b hm gm => ?_, fun m c fs b hm gm => ?_, fun b m => ⟨(s.exo b m).1, let ⟨us, e⟩ := (s.exo b m).2; ⟨us, x.per b _ e (s.exo b m).1⟩⟩⟩
  · by_cases e : m = n
    · subst e
      rw [g] at gm; cases gm
      rw [List.getElem?_set_self hl] at hm; cases hm
      exact ⟨vs, upd_same, Reps.ext x s r⟩
    · rw [List.getElem?_set_ne (Ne.symm e)] at hm
      obtain ⟨us, e1, q⟩ := s.lst m es b hm gm
      have nb : b ≠ a := fun z => e (nodupAt s.nd gm (z ▸ g))
      exact ⟨us, by rw [upd_ne nb]; exact e1, Reps.ext x s q⟩
  · by_cases e : m = n
    · subst e
      rw [List.getElem?_set_self hl] at hm; cases hm
    · rw [List.getElem?_set_ne (Ne.symm e)] at hm
      obtain ⟨dx, gs, e1, e2, q, nd⟩ := s.ins m c fs b hm gm
      have nb : b ≠ a := fun z => e (nodupAt s.nd gm (z ▸ g))
      have nx : dx ≠ a := fun z => s.notOwn nd (z ▸ ha)
      exact ⟨dx, gs, by rw [upd_ne nb]; exact e1, e2, Reps.ext x s q, by rw [upd_ne nx]; exact nd⟩

/-! ### a list that nothing speaks of -/
def KF.hid (K : KF) (D : Addr) : KF := ⟨K.F, ⟨K.kd.pr, D :: K.kd.ex⟩⟩
mutual
theorem Rep.hid {D : Addr} (h : H D = none) : ∀ {d : MP.D} {v : V}, Rep K ρ H d v → Rep (K.hid D) ρ H d v
  | .non, _, r => r
  | .bl _, _, r => r
  | .int _, _, r => r
  | .str _, _, r => r
  | .tup ds, _, r => by
    unfold Rep at r ⊢
    obtain ⟨a, vs, e, q, r⟩ := r
    exact ⟨a, vs, e, q, Reps.hid h r⟩
  | .lst ds, _, r => by
    unfold Rep at r ⊢
    obtain ⟨a, vs, e, q, n, r⟩ := r
    refine ⟨a, vs, e, q, ⟨n.1, fun m => ?_⟩, Reps.hid h r⟩
    rcases List.mem_cons.mp m with m | m
    · rw [m, h] at q; cases q
    · exact n.2 m
  | .scr ns, _, r => by
    unfold Rep at r ⊢
    obtain ⟨a, e, q⟩ := r
    refine ⟨a, e, ?_⟩
    rcases q with ⟨q, n⟩ | q
    · refine .inl ⟨q, n.1, fun m => ?_⟩
      rcases List.mem_cons.mp m with m | m
      · rcases q with q | ⟨o, q⟩ <;> rw [m, h] at q <;> cases q
      · exact n.2 m
    · exact .inr q
  | .loc n, _, r => by unfold Rep at r ⊢; exact r
  | .dct kvs, _, r => by
    unfold Rep at r ⊢
    obtain ⟨a, e, q⟩ := r
    refine ⟨a, e, ?_⟩
    rcases q with ⟨q, n⟩ | q
    · refine .inl ⟨q, n.1, fun m => ?_⟩
      rcases List.mem_cons.mp m with m | m
      · rw [m, h] at q; cases q
      · exact n.2 m
    · exact .inr q
theorem Reps.hid {D : Addr} (h : H D = none) : ∀ {ds : List MP.D} {vs : List V}, Reps K ρ H ds vs → Reps (K.hid D) ρ H ds vs
  | [], _, r => by unfold Reps at r ⊢; exact r
  | d :: ds, _, r => by
    unfold Reps at r ⊢
    obtain ⟨v, vs, e, h1, h2⟩ := r
    exact ⟨v, vs, e, Rep.hid h h1, Reps.hid h h2⟩
end
mutual
theorem Rep.unhid {D : Addr} : ∀ {d : MP.D} {v : V}, Rep (K.hid D) ρ H d v → Rep K ρ H d v
  | .non, _, r => r
  | .bl _, _, r => r
  | .int _, _, r => r
  | .str _, _, r => r
  | .tup ds, _, r => by
    unfold Rep at r ⊢
    obtain ⟨a, vs, e, q, r⟩ := r
    exact ⟨a, vs, e, q, Reps.unhid r⟩
  | .lst ds, _, r => by
    unfold Rep at r ⊢
    obtain ⟨a, vs, e, q, n, r⟩ := r
    exact ⟨a, vs, e, q, ⟨n.1, fun m => n.2 (List.mem_cons_of_mem _ m)⟩, Reps.unhid r⟩
  | .scr ns, _, r => by
    unfold Rep at r ⊢
    obtain ⟨a, e, q⟩ := r
    refine ⟨a, e, ?_⟩
    rcases q with ⟨q, n⟩ | q
    · exact .inl ⟨q, n.1, fun m => n.2 (List.mem_cons_of_mem _ m)⟩
    · exact .inr q
  | .loc n, _, r => by unfold Rep at r ⊢; exact r
  | .dct kvs, _, r => by
    unfold Rep at r ⊢
    obtain ⟨a, e, q⟩ := r
    refine ⟨a, e, ?_⟩
    rcases q with ⟨q, n⟩ | q
    · exact .inl ⟨q, n.1, fun m => n.2 (List.mem_cons_of_mem _ m)⟩
    · exact .inr q
theorem Reps.unhid {D : Addr} : ∀ {ds : List MP.D} {vs : List V}, Reps (K.hid D) ρ H ds vs → Reps K ρ H ds vs
  | [], _, r => by unfold Reps at r ⊢; exact r
  | d :: ds, _, r => by
    unfold Reps at r ⊢
    obtain ⟨v, vs, e, h1, h2⟩ := r
    exact ⟨v, vs, e, Rep.unhid h1, Reps.unhid h2⟩
end
/-- the hidden list is written -/
theorem rd_upd {D a : Addr} {u : HO} {vs ws : List V} (h : H D = some (.lst vs)) (n : ∀ xs, u ≠ .lst xs) (r : Rd H a u) : Rd (upd H D (.lst ws)) a u := by
  have : a ≠ D := fun e => by
    rcases r with r | ⟨o, r⟩
    · rw [e, h] at r; cases r; exact n _ rfl
    · rw [e, h] at r; cases r
  rcases r with r | ⟨o, r⟩
  · exact .inl (by rw [upd_ne this]; exact r)
  · exact .inr ⟨o, by rw [upd_ne this]; exact r⟩
mutual
theorem Rep.wr {D : Addr} {vs ws : List V} (h : H D = some (.lst vs)) : ∀ {d : MP.D} {v : V}, Rep (K.hid D) ρ H d v → Rep (K.hid D) ρ (upd H D (.lst ws)) d v
  | .non, _, r => r
  | .bl _, _, r => r
  | .int _, _, r => r
  | .str _, _, r => r
  | .tup ds, _, r => by
    unfold Rep at r ⊢
    obtain ⟨a, vs, e, q, r⟩ := r
    refine ⟨a, vs, e, ?_, Reps.wr h r⟩
    rcases q with q | q
    · exact .inl (rd_upd h nofun q)
    · exact .inr q
  | .lst ds, _, r => by
    unfold Rep at r ⊢
    obtain ⟨a, vs, e, q, n, r⟩ := r
    exact ⟨a, vs, e, by rw [upd_ne fun z => n.2 (by rw [z]; exact List.mem_cons_self)]; exact q, n, Reps.wr h r⟩
  | .scr ns, _, r => by
    unfold Rep at r ⊢
    obtain ⟨a, e, q⟩ := r
    refine ⟨a, e, ?_⟩
    rcases q with ⟨q, n⟩ | q
    · have : a ≠ D := fun z => n.2 (by rw [z]; exact List.mem_cons_self)
      refine .inl ⟨?_, n⟩
      rcases q with q | ⟨o, q⟩
      · exact .inl (by rw [upd_ne this]; exact q)
      · exact .inr ⟨o, by rw [upd_ne this]; exact q⟩
    · exact .inr q
  | .loc n, _, r => by unfold Rep at r ⊢; exact r
  | .dct kvs, _, r => by
    unfold Rep at r ⊢
    obtain ⟨a, e, q⟩ := r
    refine ⟨a, e, ?_⟩
    rcases q with ⟨q, n⟩ | q
    · exact .inl ⟨by rw [upd_ne fun z => n.2 (by rw [z]; exact List.mem_cons_self)]; exact q, n⟩
    · exact .inr q
theorem Reps.wr {D : Addr} {vs ws : List V} (h : H D = some (.lst vs)) : ∀ {ds : List MP.D} {us : List V}, Reps (K.hid D) ρ H ds us → Reps (K.hid D) ρ (upd H D (.lst ws)) ds us
  | [], _, r => by unfold Reps at r ⊢; exact r
  | d :: ds, _, r => by
    unfold Reps at r ⊢
    obtain ⟨v, vs, e, h1, h2⟩ := r
    exact ⟨v, vs, e, Rep.wr h h1, Reps.wr h h2⟩
end
/-- what was there ahead of the hidden list -/
theorem Rep.new (s : SR K cls ρ S H) {D : Addr} (h : H D = none) {ws : List V} {d : MP.D} {v : V} (r : Rep K ρ H d v) : Rep (K.hid D) ρ (upd H D (.lst ws)) d v := by
  exact Rep.ext' (Ext.fresh h) (fun hx => s.notTup hx) (Rep.hid h r)
theorem Reps.new {D : Addr} (h : H D = none) (s : SR K cls ρ S H) {ws : List V} {d : List MP.D} {v : List V} (r : Reps K ρ H d v) : Reps (K.hid D) ρ (upd H D (.lst ws)) d v :=
  Reps.ext' (Ext.fresh h) (fun hx => s.notTup hx) (Reps.hid h r)
/-- a new list, hidden -/
theorem SR.hid (s : SR K cls ρ S H) {D : Addr} (h : H D = none) (ws : List V) : SR (K.hid D) cls ρ S (upd H D (.lst ws)) := by
  have x : Ext ρ H ρ (upd H D (.lst ws)) := Ext.fresh h
  have s1 := s.fresh (o := .lst ws) h
  refine ⟨s.len, s.nd, fun n ds a hn g => ?_, fun n c fs a hn g => ?_, fun a m => ?_⟩
  · obtain ⟨us, e, r⟩ := s.lst n ds a hn g
    exact ⟨us, by rw [upd_ne fun z => s.free h (by rw [← z]; exact List.mem_of_getElem? g)]; exact e, Reps.new h s r⟩
  · obtain ⟨dx, gs, e, e2, r, nd⟩ := s.ins n c fs a hn g
    exact ⟨dx, gs, by rw [upd_ne fun z => s.free h (by rw [← z]; exact List.mem_of_getElem? g)]; exact e, e2, Reps.new h s r, by rw [upd_ne fun z => by rw [z, h] at nd; cases nd]; exact nd⟩
  · rcases List.mem_cons.mp m with rfl | m
    · exact ⟨s.free h, ws, upd_same⟩
    · exact s1.exo a m
/-- .. is written -/
theorem SR.wr {D : Addr} (s : SR (K.hid D) cls ρ S H) {vs ws : List V} (h : H D = some (.lst vs)) : SR (K.hid D) cls ρ S (upd H D (.lst ws)) := by
  have nD : D ∉ ρ := (s.exo D List.mem_cons_self).1
  refine ⟨s.len, s.nd, fun n ds a hn g => ?_, fun n c fs a hn g => ?_, fun a m => ⟨(s.exo a m).1, ?_⟩⟩
  · obtain ⟨us, e, r⟩ := s.lst n ds a hn g
    exact ⟨us, by rw [upd_ne fun z => nD (by rw [← z]; exact List.mem_of_getElem? g)]; exact e, Reps.wr h r⟩
  · obtain ⟨dx, gs, e, e2, r, nd⟩ := s.ins n c fs a hn g
    exact ⟨dx, gs, by rw [upd_ne fun z => nD (by rw [← z]; exact List.mem_of_getElem? g)]; exact e, e2, Reps.wr h r, by rw [upd_ne fun z => by rw [z, h] at nd; cases nd]; exact nd⟩
  · by_cases z : a = D
    · subst z; exact ⟨ws, upd_same⟩
    · obtain ⟨us, e⟩ := (s.exo a m).2
      exact ⟨us, by rw [upd_ne z]; exact e⟩
/-- .. is shown -/
theorem SR.unhid {D : Addr} (s : SR (K.hid D) cls ρ S H) : SR K cls ρ S H := by
  refine ⟨s.len, s.nd, fun n ds a hn g => ?_, fun n c fs a hn g => ?_, fun a m => s.exo a (List.mem_cons_of_mem _ m)⟩
  · obtain ⟨us, e, r⟩ := s.lst n ds a hn g
    exact ⟨us, e, Reps.unhid r⟩
  · obtain ⟨dx, gs, e, e2, r, nd⟩ := s.ins n c fs a hn g
    exact ⟨dx, gs, e, e2, Reps.unhid r, nd⟩

/-! ### the frame -/
abbrev Env := List (Option D)
structure Sig (K : KF) (ρ : List Addr) (H : Hp) (env : Env) (σ : L2.St) : Prop where
  len : env.length = σ.length
  at_ : ∀ (i : Nat) (d : D), env[i]? = some (some d) → ∃ v, σ[i]? = some (some v) ∧ Rep K ρ H d v
theorem Sig.ext {env : Env} {σ : L2.St} (g : Sig K ρ H env σ) (x : Ext ρ H ρ' H') (s : SR K cls ρ S H) : Sig K ρ' H' env σ :=
  ⟨g.len, fun i d h => let ⟨v, e, r⟩ := g.at_ i d h; ⟨v, e, Rep.ext x s r⟩⟩
theorem Sig.set {env : Env} {σ : L2.St} (g : Sig K ρ H env σ) (i : Nat) {d : D} {v : V} (r : Rep K ρ H d v) : Sig K ρ H (env.set i (some d)) (σ.set i (some v)) := by
  refine ⟨by simp [g.len], fun j e h => ?_⟩
  by_cases q : j = i
  · subst q
    have hl : j < env.length := by
      have := (List.getElem?_eq_some_iff.mp h).1
      simpa using this
    rw [List.getElem?_set_self hl] at h; cases h
    exact ⟨v, List.getElem?_set_self (by rw [← g.len]; exact hl), r⟩
  · rw [List.getElem?_set_ne (Ne.symm q)] at h ⊢
    exact g.at_ j e h
def wipeE (env : Env) : List Nat → Env
  | [] => env
  | v :: vs => (wipeE env vs).set v none
theorem wipeE_len (env : Env) : ∀ vs, (wipeE env vs).length = env.length
  | [] => rfl
  | v :: vs => by unfold wipeE; rw [List.length_set, wipeE_len env vs]
theorem Sig.hid {env : Env} {σ : L2.St} (g : Sig K ρ H env σ) (s : SR K cls ρ S H) {D : Addr} (h : H D = none) (ws : List V) : Sig (K.hid D) ρ (upd H D (.lst ws)) env σ :=
  ⟨g.len, fun i d e => let ⟨v, e1, r⟩ := g.at_ i d e; ⟨v, e1, Rep.new s h r⟩⟩
theorem Sig.wr {env : Env} {σ : L2.St} {D : Addr} (g : Sig (K.hid D) ρ H env σ) {vs ws : List V} (h : H D = some (.lst vs)) : Sig (K.hid D) ρ (upd H D (.lst ws)) env σ :=
  ⟨g.len, fun i d e => let ⟨v, e1, r⟩ := g.at_ i d e; ⟨v, e1, Rep.wr h r⟩⟩
theorem Sig.unhid {env : Env} {σ : L2.St} {D : Addr} (g : Sig (K.hid D) ρ H env σ) : Sig K ρ H env σ :=
  ⟨g.len, fun i d e => let ⟨v, e1, r⟩ := g.at_ i d e; ⟨v, e1, Rep.unhid r⟩⟩
theorem Sig.wipe {env : Env} {σ : L2.St} (g : Sig K ρ H env σ) : ∀ vs : List Nat, Sig K ρ H (wipeE env vs) (wipe σ vs)
  | [] => g
  | v :: vs => by
    have ih := Sig.wipe g vs
    unfold wipeE L2.wipe
    refine ⟨by simp [ih.len], fun j e h => ?_⟩
    by_cases q : j = v
    · subst q
      have hl : j < (wipeE env vs).length := by
        have := (List.getElem?_eq_some_iff.mp h).1
        simpa using this
      rw [List.getElem?_set_self hl] at h; cases h
    · rw [List.getElem?_set_ne (Ne.symm q)] at h ⊢
      exact ih.at_ j e h
end
end MP

set_option linter.all false
set_option maxRecDepth 100000
set_option maxHeartbeats 1000000
/-! MiniPy, 2: the small syntax and what it comes to. -/
namespace MP
open PySem PySem.Spec PyProof.Rows L2

inductive Ty where | int | str | tup | bool | lst | cls (c : Nat)
  deriving DecidableEq
inductive BO where | add | sub | mul | fdiv | mod | pow
  deriving DecidableEq
inductive CO where | eq | ne | lt | le | gt | ge | isin | notin
  deriving DecidableEq
inductive Bi where | len | all | any | tuple | list | int | str | abs | max | repr
  deriving DecidableEq
inductive Me where | join | split | partition
  deriving DecidableEq
inductive Lm where | append | pop | extend
  deriving DecidableEq
inductive Tg where | nm (i : Nat) | tup (is : List Nat)

mutual
inductive E where
  | var (i : Nat) | non | bl (b : Bool) | int (i : Int) | str (x : Str) | glb (g : Nat)
  | bin (o : BO) (a b : E) | neg (a : E) | no (a : E)
  | cmp (o : CO) (a b : E) | chain (o p : CO) (a b c : E) | isN (neg : Bool) (a : E)
  | and (a b : E) | or (a b : E) | ife (c a b : E)
  | call (f : Nat) (as : Es) | bi (f : Bi) (as : Es) | isi (a : E) (t : Ty)
  | me (m : Me) (o : E) (as : Es) | repl (a : E) (i : Int) (y z : Str) | lm (m : Lm) (o : E) (as : Es)
  | idx (o i : E) | slc (o : E) (lo hi : Eo) | rev (o : E)
  | tup (as : Es) | lst (mu : Bool) (as : Es) | dct (kvs : List (Str × Str))
  | comp (mu : Bool) (elt : E) (tg : Tg) (it : It) (ifs : Eo) (own : List Nat)
  | mk (c : Nat) (as : Es) | om (f : Nat) (o : E) (as : Es) | fld (o : E) (f : Str)
inductive Es where | nil | cons (a : E) (as : Es)
inductive Eo where | none | some (a : E)
inductive It where | of (e : E) | keys (g : Nat) | rng1 (a : E) | rng2 (a b : E) | enum (e : E) | zip (a b : E)
end

mutual
inductive St where
  | asg (t : Tg) (e : E) | asgc (i : Nat) (e : E) | par2 (i j : Nat) (a b : E) | par3 (i j k : Nat) (a b c : E)
  | sset (o i e : E) | fset (o : E) (f : Str) (e : E)
  | aug (i : Nat) (o : BO) (e : E) | faug (ob : E) (f : Str) (o : BO) (e : E)
  | xpr (e : E) | ifs (c : E) (a b : Sts) | whl (c : E) (b : Sts) | for_ (tg : Tg) (it : It) (b : Sts)
  | ret (e : E) | retn | raise (c : Nat) (e : E) | tryx (b : Sts) (c : Nat) (nm : Option Nat) (h : Sts)
  | pas | brk | cnt
inductive Sts where | nil | cons (a : St) (as : Sts)
end

/-! ### values -/
def asL (S : Sto) : D → Option (List D)
  | .lst xs => some xs
  | .loc n => match S[n]? with
    | some (.lst xs) => some xs
    | _ => none
  | _ => none
def asQ (S : Sto) : D → Option (List D)
  | .tup xs => some xs
  | d => asL S d
mutual
def toP : D → Option PyData
  | .non => some .none
  | .bl b => some (.bool b)
  | .int i => some (.int i)
  | .str x => some (.str x)
  | .tup ds => (toPs ds).map .tuple
  | .lst ds => (toPs ds).map .list
  | _ => none
def toPs : List D → Option (List PyData)
  | [] => some []
  | d :: ds => match toP d, toPs ds with
    | some p, some ps => some (p :: ps)
    | _, _ => none
end
def toPS (S : Sto) : D → Option PyData
  | .loc n => match S[n]? with
    | some (.lst xs) => (toPs xs).map .list
    | _ => none
  | d => toP d
def scV : D → Option V
  | .non => some .non
  | .bl b => some (.bl b)
  | .int i => some (.int i)
  | .str x => some (.str x)
  | _ => none
def scVs : List D → Option (List V)
  | [] => some []
  | d :: ds => match scV d, scVs ds with
    | some p, some ps => some (p :: ps)
    | _, _ => none
def asBls : List D → Option (List Bool)
  | [] => some []
  | .bl b :: ds => (asBls ds).map (b :: ·)
  | _ => none
def asInts : List D → Option (List Int)
  | [] => some []
  | .int b :: ds => (asInts ds).map (b :: ·)
  | _ => none
def asStrs : List D → Option (List Str)
  | [] => some []
  | .str b :: ds => (asStrs ds).map (b :: ·)
  | _ => none

def rOpt {α : Type} (S : Sto) : Option α → R α
  | some a => .ok a S
  | none => .bad

def evEqD (S : Sto) (x y : D) : Option Bool :=
  match toPS S x, toPS S y with
  | some p, some q => if SeqAt.shaped p && SeqAt.shaped q then some (PyData.eqv p q) else none
  | _, _ => none
def evEq (S : Sto) (x y : D) : Option Bool :=
  match x, y with
  | .str a, .str b => some (decide (a = b))
  | x, y => evEqD S x y
/-- a plain value in a list of such -/
def inSc (S : Sto) (x y : D) : Option Bool :=
  match asL S y, scV x with
  | some ds, some v => match scVs ds with
    | some vs => some (inV v vs)
    | none => none
  | _, _ => none
def evIn (S : Sto) (x y : D) : Option Bool :=
  match y with
  | .str z => match x with
    | .str c => if c.cps.size = 1 then some (decide (c.cps.getD 0 0 ∈ z.cps.toList)) else none
    | _ => none
  | .dct kvs => match x with
    | .str c => some (kvs.any fun p => p.1 == c)
    | _ => none
  | .tup ds => match scV x, scVs ds with
    | some v, some vs => some (inV v vs)
    | _, _ => none
  | d => match inSc S x d with
    | some k => some k
    | none => match toPS S d, toPS S x with
      | some (.list ps), some p => if SeqAt.shaped (.list ps) && SeqAt.shaped p then some (ps.any fun z => PyData.eqv z p) else none
      | _, _ => none
def evCmp (o : CO) (S : Sto) (x y : D) : Option Bool :=
  match o with
  | .eq => evEq S x y
  | .ne => (evEq S x y).map (!·)
  | .isin => evIn S x y
  | .notin => (evIn S x y).map (!·)
  | .lt => match x, y with
    | .int i, .int j => some (decide (i < j))
    | .str i, .str j => some (decide (i.cps.toList < j.cps.toList))
    | _, _ => none
  | .le => match x, y with
    | .int i, .int j => some (decide (i ≤ j))
    | .str i, .str j => some (!decide (j.cps.toList < i.cps.toList))
    | _, _ => none
  | .gt => match x, y with
    | .int i, .int j => some (decide (j < i))
    | .str i, .str j => some (decide (j.cps.toList < i.cps.toList))
    | _, _ => none
  | .ge => match x, y with
    | .int i, .int j => some (decide (j ≤ i))
    | .str i, .str j => some (!decide (i.cps.toList < j.cps.toList))
    | _, _ => none
/-- s * k -/
def strRep (x : Str) (k : Nat) : Str := ⟨(List.replicate k x.cps).foldl (· ++ ·) #[]⟩
def evBin (o : BO) (S : Sto) (x y : D) : Option D :=
  match o with
  | .add => match x, y with
    | .int i, .int j => some (.int (i + j))
    | .str i, .str j => if i.length + j.length ≤ sizeLine then some (.str (i ++ j)) else none
    | .tup a, .tup b => if a.length + b.length ≤ sizeLine then some (.tup (a ++ b)) else none
    | a, b => match asL S a, asL S b with
      | some p, some q => if p.length + q.length ≤ sizeLine then some (.lst (p ++ q)) else none
      | _, _ => none
  | .sub => match x, y with
    | .int i, .int j => some (.int (i - j))
    | _, _ => none
  | .mul => match x, y with
    | .int i, .int j => if i.natAbs.log2 + j.natAbs.log2 ≤ 999000 then some (.int (i * j)) else none
    | .str i, .int j => if 2 ≤ j ∧ j ≤ 100000 ∧ 0 < i.length ∧ i.length * j.toNat ≤ 16000000 then some (.str (strRep i j.toNat)) else none
    | a, .int j => match asL S a with
      | some p => if 0 ≤ j ∧ j < 2 ^ 63 ∧ p.length * j.toNat ≤ sizeLine then some (.lst (List.replicate j.toNat p).flatten) else none
      | _ => none
    | _, _ => none
  | .fdiv => match x, y with
    | .int i, .int j => if 0 < j ∧ j.natAbs.log2 < 8999 then some (.int (i / j)) else if j ≠ 0 ∧ j.natAbs < 1073741824 then some (.int (i.fdiv j)) else none
    | _, _ => none
  | .mod => match x, y with
    | .int i, .int j => if j ≠ 0 then some (.int (i.fmod j)) else none
    | _, _ => none
  | .pow => match x, y with
    | .int i, .int j => if 0 ≤ j ∧ j ≤ 1000000 ∧ i.natAbs < 2 ^ 64 then some (.int (i ^ j.toNat)) else none
    | _, _ => none
def evIdx (S : Sto) (x y : D) : Option D :=
  match x, y with
  | .str z, .int i => if z.length ≤ sizeLine then (atI z.cps.toList i).map fun c => .str ⟨#[c]⟩ else none
  | .dct kvs, .str k => (kvs.lookup k).map D.str
  | a, .int i => match asQ S a with
    | some p => atI p i
    | none => none
  | _, _ => none
def cutD (xs : List D) (lo hi : Option Int) : List D := (xs.drop (HT.sIx xs.length 0 lo)).take (HT.sIx xs.length xs.length hi - HT.sIx xs.length 0 lo)
def evSlc (S : Sto) (x : D) (lo hi : Option Int) : Option D :=
  match x with
  | .str z => if z.length ≤ sizeLine then some (.str (cutS z lo hi)) else none
  | .tup xs => some (.tup (cutD xs lo hi))
  | d => (asL S d).map fun xs => .lst (cutD xs lo hi)
def evRev (S : Sto) (x : D) : Option D :=
  match x with
  | .tup xs => some (.tup xs.reverse)
  | d => (asL S d).map fun xs => .lst xs.reverse
def evNeg : D → Option D
  | .int i => some (.int (-i))
  | _ => none
def isTy (S : Sto) (x : D) (t : Ty) : Option Bool :=
  match x, t with
  | .non, .cls _ => none
  | .non, _ => some false
  | .bl _, .bool => some true
  | .bl _, .int => some true
  | .bl _, .cls _ => none
  | .bl _, _ => some false
  | .int _, .int => some true
  | .int _, .cls _ => none
  | .int _, _ => some false
  | .str _, .str => some true
  | .str _, .cls _ => none
  | .str _, _ => some false
  | .tup _, .tup => some true
  | .tup _, .cls _ => none
  | .tup _, _ => some false
  | d, .lst => (asL S d).map fun _ => true
  | _, .cls _ => none
  | d, _ => (asL S d).map fun _ => false
/-- the decimal text of an int of not too many digits -/
def intTx (i : Int) : Option Str := if i.natAbs < 10 ^ 4300 then some (Str.ofString (toString i)) else none
mutual
/-- what has a repr here: no dicts, ints of at most 4300 digits -/
def shOk : PyData → Bool
  | .none => true
  | .bool _ => true
  | .int i => decide (i.natAbs < 10 ^ 4300)
  | .str _ => true
  | .list xs => shOks xs
  | .tuple xs => shOks xs
  | .dict _ => false
def shOks : List PyData → Bool
  | [] => true
  | x :: xs => shOk x && shOks xs
end
def reprD (S : Sto) (d : D) : Option Str :=
  match toPS S d with
  | some p => if shOk p = true ∧ p.shown.length + 64 ≤ sizeLine ∧ p.depth ≤ 40 then some p.shown else none
  | none => none
def maxI : List Int → Option Int
  | [] => none
  | x :: xs => some (xs.foldl (fun a b => if a < b then b else a) x)
def evBi (f : Bi) (S : Sto) (as : List D) : Option D :=
  match f with
  | .len => match as with
    | [.str z] => if z.length ≤ sizeLine then some (.int z.length) else none
    | [d] => (asQ S d).map fun xs => .int xs.length
    | _ => none
  | .all => match as with
    | [d] => ((asL S d).bind asBls).map fun bs => .bl (bs.all id)
    | _ => none
  | .any => match as with
    | [d] => ((asL S d).bind asBls).map fun bs => .bl (bs.any id)
    | _ => none
  | .tuple => match as with
    | [d] => (asQ S d).map .tup
    | _ => none
  | .list => match as with
    | [d] => (asQ S d).map .lst
    | _ => none
  | .int => match as with
    | [.int i] => some (.int i)
    | [.str z] => if z.length ≤ 640 ∨ (z.length ≤ 4300 ∧ z.cps.all (fun c => decide (0 < c ∧ c < 128)) = true) then (intText? z).map .int else none
    | _ => none
  | .str => match as with
    | [.int i] => (intTx i).map .str
    | _ => none
  | .abs => match as with
    | [.int i] => some (.int (if i < 0 then -i else i))
    | _ => none
  | .max => match as with
    | [d] => ((asQ S d).bind asInts).bind fun ns => (maxI ns).map .int
    | _ => none
  | .repr => match as with
    | [d] => (reprD S d).map .str
    | _ => none
def evMe (m : Me) (S : Sto) (o : D) (as : List D) : Option D :=
  match m, o, as with
  | .join, .str a, [d] => ((asQ S d).bind asStrs).bind fun ys => if (ys.map (·.length)).sum + ys.length * a.length ≤ 16777216 then some (.str (Txt.join a ys)) else none
  | .split, .str a, [.str b] => if b.length ≠ 0 ∧ a.length + 2 ≤ sizeLine then some (.lst ((Txt.split a b).map .str)) else none
  | .partition, .str a, [.str b] => if b.length ≠ 0 ∧ a.length ≤ sizeLine then some (.tup [.str (Txt.partition a b).1, .str (Txt.partition a b).2.1, .str (Txt.partition a b).2.2]) else none
  | _, _, _ => none
def isStrD : D → Bool
  | .str _ => true
  | _ => false
def isLocD (S : Sto) : D → Bool
  | .loc n => match S[n]? with
    | some (.lst _) => true
    | _ => false
  | _ => false
/-- list methods at a location -/
def evLm (m : Lm) (S : Sto) (o : D) (as : List D) : R D :=
  match o with
  | .loc n => match S[n]? with
    | some (.lst xs) => match m, as with
      | .append, [d] => if xs.length < sizeLine then .ok .non (S.set n (.lst (xs ++ [d]))) else .bad
      | .pop, [] => match xs[xs.length - 1]? with
        | some d => .ok d (S.set n (.lst xs.dropLast))
        | none => .bad
      | .extend, [d] => match asL S d with
        | some ys => if xs.length + ys.length ≤ sizeLine then .ok .non (S.set n (.lst (xs ++ ys))) else .bad
        | none => .bad
      | _, _ => .bad
    | _ => .bad
  | _ => .bad

/-- a op= b -/
def augR (o : BO) (x y : D) : Option D :=
  match o, x, y with
  | .add, .int a, .int b => some (.int (a + b))
  | .sub, .int a, .int b => some (.int (a - b))
  | .mul, .int a, .int b => if a.natAbs.log2 + b.natAbs.log2 ≤ 999000 then some (.int (a * b)) else none
  | .add, .str a, .str b => if a.length + b.length ≤ sizeLine then some (.str (a ++ b)) else none
  | _, _, _ => none
/-! ### the reckoning -/
structure Cfg where
  N : Nat
  glb : Nat → D
  call : Nat → List D → Sto → R D
  make : Nat → List D → Sto → R D

def bindTg (t : Tg) (env : Env) (d : D) : Option Env :=
  match t with
  | .nm i => some (env.set i (some d))
  | .tup is => match d with
    | .tup ds => if ds.length = is.length then some ((is.zip ds).foldl (fun e p => e.set p.1 (some p.2)) env) else none
    | _ => none

/-- what is walked: its items, and the location that must stay -/
structure Walkd where
  items : List D
  keep : Option (Nat × List D)
def itOf (S : Sto) : D → Option Walkd
  | .lst xs => some ⟨xs, none⟩
  | .tup xs => some ⟨xs, none⟩
  | .scr ns => some ⟨ns.map .int, none⟩
  | .str z => some ⟨z.cps.toList.map fun c => .str ⟨#[c]⟩, none⟩
  | .loc n => match S[n]? with
    | some (.lst xs) => some ⟨xs, some (n, xs)⟩
    | _ => none
  | _ => none
open Classical in
noncomputable def Walkd.still (w : Walkd) (S : Sto) : Bool :=
  match w.keep with
  | none => true
  | some (n, xs) => decide (S[n]? = some (.lst xs))
def rangeOf : List D → Option Walkd
  | [.int j] => if -(2 ^ 62) ≤ j ∧ j < 2 ^ 62 then some ⟨(List.range j.toNat).map fun (k : Nat) => .int k, none⟩ else none
  | [.int i, .int j] => if -(2 ^ 62) ≤ i ∧ i < 2 ^ 62 ∧ -(2 ^ 62) ≤ j ∧ j < 2 ^ 62 then some ⟨(List.range (j - i).toNat).map fun (k : Nat) => .int (i + k), none⟩ else none
  | _ => none

noncomputable def compL (w : Walkd) (f : D → Sto → R (Option D)) : List D → Sto → R (List D)
  | [], S => .ok [] S
  | d :: ds, S => if w.still S then (f d S).bind fun o S1 => (compL w f ds S1).bind fun r S2 => .ok (match o with | some x => x :: r | none => r) S2 else .bad

inductive Fl where | nx | rt (d : D) | bk | ct
inductive RS where
  | ok (f : Fl) (env : Env) (S : Sto) | exc (c : Nat) (m : D) (env : Env) (S : Sto) | bad
def R.toS {α : Type} (env : Env) (r : R α) (f : α → Sto → RS) : RS :=
  match r with
  | .ok a S => f a S
  | .exc c m S => .exc c m env S
  | .bad => .bad
def RS.next (r : RS) (f : Env → Sto → RS) : RS :=
  match r with
  | .ok .nx env S => f env S
  | r => r
noncomputable def forL (w : Walkd) (f : D → Env → Sto → RS) : List D → Env → Sto → RS
  | [], env, S => if w.still S then .ok .nx env S else .bad
  | d :: ds, env, S => if w.still S then
      match f d env S with
      | .ok .nx env1 S1 => forL w f ds env1 S1
      | .ok .ct env1 S1 => forL w f ds env1 S1
      | .ok .bk env1 S1 => .ok .nx env1 S1
      | r => r
    else .bad
def whlL (c : Env → Sto → R D) (f : Env → Sto → RS) : Nat → Env → Sto → RS
  | 0, _, _ => .bad
  | n + 1, env, S => (c env S).toS env fun d S1 => match d with
    | .bl true => match f env S1 with
      | .ok .nx env1 S1 => whlL c f n env1 S1
      | .ok .ct env1 S1 => whlL c f n env1 S1
      | .ok .bk env1 S1 => .ok .nx env1 S1
      | r => r
    | .bl false => .ok .nx env S1
    | _ => .bad

section
variable (c : Cfg)
mutual
noncomputable def evE : E → Env → Sto → R D
  | .var i, env, S => match env[i]? with
    | some (some d) => .ok d S
    | _ => .bad
  | .non, _, S => .ok .non S
  | .bl b, _, S => .ok (.bl b) S
  | .int i, _, S => .ok (.int i) S
  | .str x, _, S => .ok (.str x) S
  | .glb g, _, S => .ok (c.glb g) S
  | .bin o a b, env, S => (evE a env S).bind fun x S1 => (evE b env S1).bind fun y S2 => rOpt S2 (evBin o S2 x y)
  | .neg a, env, S => (evE a env S).bind fun x S1 => rOpt S1 (evNeg x)
  | .no a, env, S => (evE a env S).bind fun x S1 => match x with
    | .bl b => .ok (.bl (!b)) S1
    | _ => .bad
  | .cmp o a b, env, S => (evE a env S).bind fun x S1 => (evE b env S1).bind fun y S2 => (rOpt S2 (evCmp o S2 x y)).bind fun k S3 => .ok (.bl k) S3
  | .chain o p a b d, env, S => (evE a env S).bind fun x S1 => (evE b env S1).bind fun y S2 => (rOpt S2 (evCmp o S2 x y)).bind fun k S3 =>
      if k = true then (evE d env S3).bind fun z S4 => (rOpt S4 (evCmp p S4 y z)).bind fun k S5 => .ok (.bl k) S5 else .ok (.bl false) S3
  | .isN ng a, env, S => (evE a env S).bind fun x S1 => match x with
    | .non => .ok (.bl (!ng)) S1
    | _ => .ok (.bl ng) S1
  | .and a b, env, S => (evE a env S).bind fun x S1 => match x with
    | .bl true => evE b env S1
    | .bl false => .ok (.bl false) S1
    | _ => .bad
  | .or a b, env, S => (evE a env S).bind fun x S1 => match x with
    | .bl true => .ok (.bl true) S1
    | .bl false => evE b env S1
    | _ => .bad
  | .ife d a b, env, S => (evE d env S).bind fun x S1 => match x with
    | .bl true => evE a env S1
    | .bl false => evE b env S1
    | _ => .bad
  | .call f as, env, S => (evEs as env S).bind fun xs S1 => c.call f xs S1
  | .bi f as, env, S => (evEs as env S).bind fun xs S1 => rOpt S1 (evBi f S1 xs)
  | .isi a t, env, S => (evE a env S).bind fun x S1 => (rOpt S1 (isTy S1 x t)).bind fun k S2 => .ok (.bl k) S2
  | .me m o as, env, S => (evE o env S).bind fun x S1 => if isStrD x = true then (evEs as env S1).bind fun xs S2 => rOpt S2 (evMe m S2 x xs) else .bad
  | .repl a i y z, env, S => (evE a env S).bind fun x S1 => (rOpt S1 (evIdx S1 x (.int i))).bind fun d S2 => match d with
    | .str x => if x.length + (x.length + 1) * z.length ≤ 16777216 then .ok (.str (Txt.replace x y z)) S2 else .bad
    | _ => .bad
  | .lm m o as, env, S => (evE o env S).bind fun x S1 => if isLocD S1 x = true then (evEs as env S1).bind fun xs S2 => evLm m S2 x xs else .bad
  | .idx o i, env, S => (evE o env S).bind fun x S1 => (evE i env S1).bind fun y S2 => rOpt S2 (evIdx S2 x y)
  | .slc o lo hi, env, S => (evE o env S).bind fun x S1 => (evEo lo env S1).bind fun l S2 => (evEo hi env S2).bind fun h S3 => rOpt S3 (evSlc S3 x l h)
  | .rev o, env, S => (evE o env S).bind fun x S1 => rOpt S1 (evRev S1 x)
  | .tup as, env, S => (evEs as env S).bind fun xs S1 => if xs.length ≤ sizeLine then .ok (.tup xs) S1 else .bad
  | .lst mu as, env, S => (evEs as env S).bind fun xs S1 => if xs.length ≤ sizeLine then (if mu then .ok (.loc S1.length) (S1 ++ [.lst xs]) else .ok (.lst xs) S1) else .bad
  | .dct kvs, _, S => .ok (.dct kvs) S
  | .comp mu elt tg it ifs own, env, S => (evIt it env S).bind fun w S1 => if w.items.length ≤ sizeLine then
      (compL w (fun d S2 => match bindTg tg (wipeE env own) d with
        | some e1 => (evEb ifs e1 S2).bind fun k S3 => if k = true then (evE elt e1 S3).bind fun x S4 => .ok (some x) S4 else .ok none S3
        | none => .bad) w.items S1).bind fun xs S2 => if w.still S2 = true then (if mu then .ok (.loc S2.length) (S2 ++ [.lst xs]) else .ok (.lst xs) S2) else .bad
      else .bad
  | .mk k as, env, S => (evEs as env S).bind fun xs S1 => c.make k xs S1
  | .om f o as, env, S => (evE o env S).bind fun x S1 => (evEs as env S1).bind fun xs S2 => c.call f (x :: xs) S2
  | .fld o f, env, S => (evE o env S).bind fun x S1 => match x with
    | .loc n => match S1[n]? with
      | some (.ins _ fs) => match fs.lookup f with
        | some d => .ok d S1
        | none => .bad
      | _ => .bad
    | _ => .bad
noncomputable def evEs : Es → Env → Sto → R (List D)
  | .nil, _, S => .ok [] S
  | .cons a as, env, S => (evE a env S).bind fun x S1 => (evEs as env S1).bind fun xs S2 => .ok (x :: xs) S2
noncomputable def evEo : Eo → Env → Sto → R (Option Int)
  | .none, _, S => .ok none S
  | .some a, env, S => (evE a env S).bind fun x S1 => match x with
    | .int i => .ok (some i) S1
    | _ => .bad
noncomputable def evEb : Eo → Env → Sto → R Bool
  | .none, _, S => .ok true S
  | .some a, env, S => (evE a env S).bind fun x S1 => match x with
    | .bl b => .ok b S1
    | _ => .bad
noncomputable def evIt : It → Env → Sto → R Walkd
  | .of e, env, S => (evE e env S).bind fun x S1 => rOpt S1 (itOf S1 x)
  | .keys g, _, S => match c.glb g with
    | .dct kvs => .ok ⟨kvs.map fun p => .str p.1, none⟩ S
    | _ => .bad
  | .rng1 a, env, S => (evE a env S).bind fun x S1 => rOpt S1 (rangeOf [x])
  | .rng2 a b, env, S => (evE a env S).bind fun x S1 => (evE b env S1).bind fun y S2 => rOpt S2 (rangeOf [x, y])
  | .enum e, env, S => (evE e env S).bind fun x S1 => .bad
  | .zip a b, env, S => .bad
end

mutual
noncomputable def evS : St → Env → Sto → RS
  | .asg t e, env, S => (evE c e env S).toS env fun x S1 => match bindTg t env x with
    | some env1 => .ok .nx env1 S1
    | none => .bad
  | .asgc i e, env, S => (evE c e env S).toS env fun x S1 => .ok .nx (env.set i (some x)) S1
  | .par2 i j a b, env, S => (evE c a env S).toS env fun x S1 => (evE c b env S1).toS env fun y S2 => .ok .nx ((env.set i (some x)).set j (some y)) S2
  | .par3 i j k a b d, env, S => (evE c a env S).toS env fun x S1 => (evE c b env S1).toS env fun y S2 => (evE c d env S2).toS env fun z S3 => .ok .nx (((env.set i (some x)).set j (some y)).set k (some z)) S3
  | .sset o i e, env, S => (evE c e env S).toS env fun x S1 => (evE c o env S1).toS env fun y S2 => (evE c i env S2).toS env fun z S3 => match y, z with
    | .loc n, .int k => match S3[n]? with
      | some (.lst xs) => match ixN xs.length k with
        | some j => .ok .nx env (S3.set n (.lst (xs.set j x)))
        | none => .bad
      | _ => .bad
    | _, _ => .bad
  | .fset o f e, env, S => .bad
  | .aug i o e, env, S => match env[i]? with
    | some (some x) => (evE c e env S).toS env fun y S1 => match augR o x y with
      | some d => .ok .nx (env.set i (some d)) S1
      | none => .bad
    | _ => .bad
  | .faug ob f o e, env, S => .bad
  | .xpr e, env, S => (evE c e env S).toS env fun _ S1 => .ok .nx env S1
  | .ifs d a b, env, S => (evE c d env S).toS env fun x S1 => match x with
    | .bl true => evSs a env S1
    | .bl false => evSs b env S1
    | _ => .bad
  | .whl d b, env, S => whlL (fun env S => evE c d env S) (fun env S => evSs b env S) c.N env S
  | .for_ tg it b, env, S => (evIt c it env S).toS env fun w S1 => forL w (fun d env S => match bindTg tg env d with
      | some env1 => evSs b env1 S
      | none => .bad) w.items env S1
  | .ret e, env, S => (evE c e env S).toS env fun x S1 => .ok (.rt x) env S1
  | .retn, env, S => .ok (.rt .non) env S
  | .raise k e, env, S => (evE c e env S).toS env fun x S1 => .exc k x env S1
  | .tryx b k nm h, env, S => match evSs b env S with
    | .exc j m env1 S1 => if j = k then evSs h env1 S1 else .bad
    | r => r
  | .pas, env, S => .ok .nx env S
  | .brk, env, S => .ok .bk env S
  | .cnt, env, S => .ok .ct env S
noncomputable def evSs : Sts → Env → Sto → RS
  | .nil, env, S => .ok .nx env S
  | .cons a as, env, S => (evS a env S).next fun env1 S1 => evSs as env1 S1
end
end

/-! ### calls -/
mutual
def D.inf (n : Nat) : D → Bool
  | .loc k => decide (k < n)
  | .tup ds => D.infs n ds
  | .lst ds => D.infs n ds
  | _ => true
def D.infs (n : Nat) : List D → Bool
  | [] => true
  | d :: ds => D.inf n d && D.infs n ds
end
def Ob.inf (n : Nat) : Ob → Bool
  | .lst xs => D.infs n xs
  | .ins _ fs => D.infs n (fs.map (·.2))
/-- the locations of a call that nothing speaks of any more are forgotten -/
def gcR (n : Nat) (r : R D) : R D :=
  match r with
  | .ok d S => if d.inf n && (S.take n).all (Ob.inf n) then .ok d (S.take n) else .ok d S
  | .exc c m S => if m.inf n && (S.take n).all (Ob.inf n) then .exc c m (S.take n) else .exc c m S
  | .bad => .bad
structure Def where
  np : Nat
  ns : Nat
  body : Sts
def startE (d : Def) (xs : List D) : Env := xs.map some ++ List.replicate (d.ns - d.np) none
def finS : RS → R D
  | .ok (.rt d) _ S => .ok d S
  | .ok .nx _ S => .ok .non S
  | .exc c m _ S => .exc c m S
  | _ => .bad
noncomputable def runDef (c : Cfg) (d : Def) (xs : List D) (S : Sto) : R D :=
  if xs.length = d.np then gcR S.length (finS (evSs c d.body (startE d xs) S)) else .bad
structure Prog where
  defs : List Def
  glbs : List D
noncomputable def callN (P : Prog) (N : Nat) : Nat → Nat → List D → Sto → R D
  | 0, _, _, _ => .bad
  | k + 1, f, xs, S => match P.defs[f]? with
    | some d => runDef ⟨N, fun g => P.glbs.getD g .non, callN P N k, fun _ _ _ => .bad⟩ d xs S
    | none => .bad
end MP

set_option linter.all false
set_option maxRecDepth 100000
set_option maxHeartbeats 2000000
/-! MiniPy, 3: a written tree is that of a small one. -/
namespace MP
open PySem PySem.Spec PyProof.Rows L2

/-- what is written of a module: the names of its defs, of its constants, of its exceptions -/
structure Tab where
  fns : List Str
  gls : List Str
  exs : List Str
  cls : List Str := []

def noStar : Expr → Bool
  | .Starred _ _ => false
  | _ => true
def noSlice : Expr → Bool
  | .Slice _ _ _ _ => false
  | _ => true
theorem starEach_of {e : Expr} {es : List Expr} {env : PySem.Env} (h : noStar e = true) : starEach (e :: es) env = (false, eval e env) :: starEach es env := by
  cases e <;> first | rfl | cases h
theorem plain_of {pos : Pos} {env : PySem.Env} : ∀ {es : List Expr}, es.all noStar = true → (backTo pos (starEach es env)).any (·.1) = false
  | [], _ => rfl
  | e :: es, h => by
    rw [List.all_cons, Bool.and_eq_true] at h
    rw [starEach_of h.1]
    have ih := plain_of (pos := pos) (env := env) h.2
    unfold backTo at ih ⊢
    rw [List.map_cons, List.any_cons, ih]
    rfl
theorem len_star {env : PySem.Env} : ∀ {es : List Expr}, (starEach es env).length = es.length
  | [] => rfl
  | e :: es => by
    cases e <;> (show (_ :: starEach es env).length = _; rw [List.length_cons, len_star]; rfl)
theorem plainIx_of {b : Expr} (h : noSlice b = true) : PlainIx b := by
  cases b <;> first | (intro _ _; rfl) | cases h
theorem behind_of {op : CmpOp} {b : Expr} (h : (match b with | .Set _ _ _ => false | _ => true) = true) : behindInMarks op b = false := by
  cases b <;> first | rfl | cases h
def noSet : Expr → Bool
  | .Set _ _ _ => false
  | _ => true
theorem behind_of' {op : CmpOp} {b : Expr} (h : noSet b = true) : behindInMarks op b = false := by
  cases b <;> first | rfl | cases h
def noCall0 : Expr → Bool
  | .Call (.Name _ _) [] [] _ => false
  | _ => true
theorem base_of {o : Expr} {f : Str} {env : PySem.Env} (h : noCall0 o = true) : attributeBase o f env (eval o env) = eval o env := by
  cases o with
  | Call f as kws pos =>
    cases f with
    | Name id p =>
      cases as with
      | nil => cases kws with
        | nil => cases h
        | cons _ _ => rfl
      | cons _ _ => rfl
    | _ => rfl
  | _ => rfl
def valTest : Expr → Bool
  | .UnaryOp .Not _ _ => false
  | .BoolOp _ _ _ => false
  | .IfExp _ _ _ _ => false
  | .Compare _ _ _ _ => false
  | _ => true
theorem isTrue_of {e : Expr} {env : PySem.Env} (h : valTest e = true) : ∀ whole, isTrue e env whole = (do let v ← whole; standAt e.pos; holding [v] (truthy v)) := by
  cases e with
  | UnaryOp op x p => cases op <;> first | (intro _; rfl) | cases h
  | BoolOp _ _ _ => cases h
  | IfExp _ _ _ _ => cases h
  | Compare _ _ _ _ => cases h
  | _ => intro _; rfl
def noComp : Expr → Bool
  | .ListComp _ _ _ _ => false
  | .SetComp _ _ _ _ => false
  | .DictComp _ _ _ _ _ => false
  | _ => true
theorem swaps_of {e : Expr} {t : Option Expr} {l : Nat} {env : PySem.Env} (h : noComp e = true) : swapsWith e t l env = pure false := by
  cases e <;> first | rfl | cases h

def isB (sc : Scope) (x : Str) (k : NameKind) : Bool := decide (sc.names.lookup x = some k)
def visB (sc : Scope) (x : Str) : Bool := isB sc x .local || isB sc x .cell || isB sc x .free
theorem vis_of {sc : Scope} {x : Str} (h : visB sc x = true) : Vis sc x := by
  unfold visB isB at h
  simp only [Bool.or_eq_true, decide_eq_true_eq] at h
  rcases h with (h | h) | h
  · exact .inl h
  · exact .inr (.inl h)
  · exact .inr (.inr h)
def nmOk (x : Str) : Bool := (x == ("__debug__" : Str)) == false && (x == ("__classdict__" : Str)) == false && (x == ("__name__" : Str)) == false
theorem nmOk_d {x : Str} (h : nmOk x = true) : (x == ("__debug__" : Str)) = false := by
  unfold nmOk at h; simp only [Bool.and_eq_true, beq_iff_eq] at h; exact h.1.1
theorem nmOk_c {x : Str} (h : nmOk x = true) : (x == ("__classdict__" : Str)) = false := by
  unfold nmOk at h; simp only [Bool.and_eq_true, beq_iff_eq] at h; exact h.1.2
theorem nmOk_n {x : Str} (h : nmOk x = true) : x ≠ "__name__" := by
  unfold nmOk at h; simp only [Bool.and_eq_true, beq_iff_eq] at h
  intro e; subst e; exact absurd h.2 (by decide +kernel)

def boB : BO → Operator → Bool
  | .add, .Add => true | .sub, .Sub => true | .mul, .Mult => true | .fdiv, .FloorDiv => true | .mod, .Mod => true | .pow, .Pow => true
  | _, _ => false
def coB : CO → CmpOp → Bool
  | .eq, .Eq => true | .ne, .NotEq => true | .lt, .Lt => true | .le, .LtE => true | .gt, .Gt => true | .ge, .GtE => true | .isin, .In => true | .notin, .NotIn => true
  | _, _ => false
def biN : Bi → Str
  | .len => "len" | .all => "all" | .any => "any" | .tuple => "tuple" | .list => "list" | .int => "int" | .str => "str" | .abs => "abs" | .max => "max" | .repr => "repr"
def meN : Me → Str
  | .join => "join" | .split => "split" | .partition => "partition"
def lmN : Lm → Str
  | .append => "append" | .pop => "pop" | .extend => "extend"
def tyN : Ty → Str
  | .int => "int" | .str => "str" | .tup => "tuple" | .bool => "bool" | .lst => "list" | .cls _ => ""

/-- names to be set: fr says that cells may be -/
def nmB (fr : Bool) (N : List Str) (sc : Scope) (i : Nat) : Expr → Bool
  | .Name x _ => decide (N[i]? = some x) && (isB sc x .local || (fr && isB sc x .cell))
  | _ => false
def tgsB (fr : Bool) (N : List Str) (sc : Scope) : List Nat → List Expr → Bool
  | [], [] => true
  | i :: is, e :: es => nmB fr N sc i e && tgsB fr N sc is es
  | _, _ => false
def tgB (fr : Bool) (N : List Str) (sc : Scope) : Tg → Expr → Bool
  | .nm i, e => nmB fr N sc i e
  | .tup is, .Tuple es _ _ => tgsB fr N sc is es
  | _, _ => false
def dctB : List (Str × Str) → List (Option Expr) → List Expr → Bool
  | [], [], [] => true
  | (k, v) :: r, some (.Constant (.str k') _ _) :: ks, .Constant (.str v') _ _ :: vs => k == k' && v == v' && dctB r ks vs
  | _, _, _ => false

/-- no a if t else b where a test stands -/
def tOk : E → Expr → Bool
  | .no a, .UnaryOp _ x _ => tOk a x
  | .and a b, .BoolOp o (x :: y :: r) pos => tOk a x && (match r with | [] => tOk b y | z :: r => tOk b (.BoolOp o (y :: z :: r) pos))
  | .or a b, .BoolOp o (x :: y :: r) pos => tOk a x && (match r with | [] => tOk b y | z :: r => tOk b (.BoolOp o (y :: z :: r) pos))
  | .ife _ _ _, _ => false
  | _, _ => true
section
variable (T : Tab) (N : List Str)
mutual
def chE (sc : Scope) : E → Expr → Bool
  | .var i, .Name x _ => decide (N[i]? = some x) && visB sc x && nmOk x
  | .non, .Constant .none _ _ => true
  | .bl b, .Constant (.bool c) _ _ => b == c
  | .int i, .Constant (.int j) _ _ => i == j
  | .str x, .Constant (.str y) _ _ => x == y
  | .glb g, .Name x _ => decide (T.gls[g]? = some x) && isB sc x .globalImplicit && nmOk x
  | .bin o a b, .BinOp x op y _ => boB o op && chE sc a x && chE sc b y
  | .neg a, .UnaryOp .USub x _ => chE sc a x
  | .no a, .UnaryOp .Not x _ => chE sc a x
  | .cmp o a b, .Compare x [op] [y] _ => coB o op && chE sc a x && chE sc b y && noSet y
  | .chain o p a b d, .Compare x [op, op'] [y, z] _ => coB o op && coB p op' && chE sc a x && chE sc b y && chE sc d z && noSet z
  | .isN true a, .Compare x [.IsNot] [.Constant .none _ _] _ => chE sc a x
  | .isN false a, .Compare x [.Is] [.Constant .none _ _] _ => chE sc a x
  | .and a b, .BoolOp .And (x :: y :: r) pos => chE sc a x && (match r with | [] => chE sc b y | z :: r => chE sc b (.BoolOp .And (y :: z :: r) pos))
  | .or a b, .BoolOp .Or (x :: y :: r) pos => chE sc a x && (match r with | [] => chE sc b y | z :: r => chE sc b (.BoolOp .Or (y :: z :: r) pos))
  | .ife d a b, .IfExp x y z _ => chE sc d x && tOk d x && chE sc a y && chE sc b z
  | .call f as, .Call (.Name x _) (e :: es) [] _ => decide (T.fns[f]? = some x) && isB sc x .globalImplicit && nmOk x && chEs sc as (e :: es)
  | .bi f as, .Call (.Name x _) (e :: es) [] _ => decide (biN f = x) && isB sc x .globalImplicit && chEs sc as (e :: es)
  | .isi a t, .Call (.Name x _) [y, .Name z _] [] _ => decide (x = "isinstance") && isB sc x .globalImplicit && decide (z = tyN t) && isB sc z .globalImplicit && (match t with | .cls _ => false | _ => true) && chE sc a y && noStar y
  | .me m o as, .Call (.Attribute x f ap) (e :: es) [] cp => decide (meN m = f) && chE sc o x && chEs sc as (e :: es) && noCall0 x && decide (es.length < 20) && (ap.endLine == cp.line)
  | .repl a i y z, .Call (.Attribute (.Subscript x (.Constant (.int j) _ _) _) f ap) [.Constant (.str y') _ _, .Constant (.str z') _ _] [] cp => decide (f = "replace") && chE sc a x && (i == j) && (y == y') && (z == z') && !(y == z) && (ap.endLine == cp.line)
  | .lm .pop o .nil, .Call (.Attribute x f ap) [] [] cp => decide (f = "pop") && chE sc o x && noCall0 x && (ap.endLine == cp.line)
  | .lm m o as, .Call (.Attribute x f ap) (e :: es) [] cp => decide (lmN m = f) && chE sc o x && chEs sc as (e :: es) && noCall0 x && decide (es.length < 20) && (ap.endLine == cp.line)
  | .idx o i, .Subscript x y _ => chE sc o x && chE sc i y && noSlice y
  | .slc o lo hi, .Subscript x (.Slice l h none _) _ => chE sc o x && chEo sc lo l && chEo sc hi h
  | .rev o, .Subscript x (.Slice none none (some (.UnaryOp .USub (.Constant (.int 1) _ _) _)) _) _ => chE sc o x
  | .tup as, .Tuple es _ _ => chEs sc as es
  | .lst _ as, .List es _ => chEs sc as es
  | .dct kvs, .Dict ks vs _ => dctB kvs ks vs && decide (0 < kvs.length) && decide (kvs.length ≤ 15) && decide ((kvs.map (·.1)).Nodup)
  | .comp _ elt tg it ifs own, .ListComp e [⟨t, i, is, 0⟩] scope _ => chIt sc it i && blkC N sc scope (own.map fun j => (N.getD j "", j)) &&
      tgB false N (relS scope sc) tg t && (match ifs, is with | .none, [] => true | .some q, [x] => chE (relS scope sc) q x && tOk q x | _, _ => false) && chE (relS scope sc) elt e &&
      (own.all fun j => match tg with | .nm i => i == j | .tup is => is.contains j) && (match tg with | .nm i => own.contains i | .tup is => is.all own.contains)
  | _, _ => false
def chEs (sc : Scope) : Es → List Expr → Bool
  | .nil, [] => true
  | .cons a as, e :: es => chE sc a e && noStar e && chEs sc as es
  | _, _ => false
def chEo (sc : Scope) : Eo → Option Expr → Bool
  | .none, none => true
  | .some a, some e => chE sc a e
  | _, _ => false
def chIt (sc : Scope) : It → Expr → Bool
  | .of a, e => chE sc a e && noSet e
  | .keys g, .Name x _ => decide (T.gls[g]? = some x) && isB sc x .globalImplicit && nmOk x
  | .rng1 m, .Call (.Name x _) [a] [] _ => decide (x = "range") && isB sc x .globalImplicit && chE sc m a && noStar a
  | .rng2 m n, .Call (.Name x _) [a, b] [] _ => decide (x = "range") && isB sc x .globalImplicit && chE sc m a && chE sc n b && noStar a && noStar b
  | _, _ => false
end
end
end MP

set_option linter.all false
set_option maxRecDepth 100000
set_option maxHeartbeats 2000000
/-! MiniPy, exceptions: in the air with the tuple of what they were made of. The place of the own dict (Option Addr) in XK, WX tells that tuple. -/
namespace MX
open PySem PySem.Spec PyProof.Rows L2

/-- an exception's object: its class, no dict, its arguments at t -/
def Zt (c : Value) (t : Addr) (ob : Obj) : Prop := ob.cls = c ∧ ob.dict = none ∧ ∃ fl, ob.data = .fields fl ∧ fl[0]? = some (.ref t)
theorem Zt.steady {c : Value} {t : Addr} : PXN.Steady1 (Zt c t) := by
  intro ob v ⟨h1, h2, fl, h3, h4⟩
  refine ⟨by rw [Obj.cls_mapFields]; exact h1, by rw [HandSPX.dict_mapFields]; exact h2, _, Obj.data_mapFields h3 _, ?_⟩
  rw [Array.getElem?_setIfInBounds]
  simp [h4]

/-- in the air over the frames l: new, or with its traceback -/
def SkyQ (G : Heap) (l : List PySem.Env) (a : Addr) (Z : Obj → Prop) (h : Heap) : Prop :=
  G.StaysIn h ∧ G.get? a = none ∧ h.FunFrames G l ∧
    ((∃ ob fl, h.get? a = some ob ∧ Z ob ∧ ob.data = .fields fl ∧ fl[1]? = some .none) ∨ ∃ v, HandSPX.TracedZ h G a Z v)
theorem SkyQ.flying {G : Heap} {l : List PySem.Env} {a : Addr} {Z : Obj → Prop} {h : Heap} (x : HandSPX.FlyingZ G l a Z h) : SkyQ G l a Z h :=
  ⟨x.1, x.2.1, x.2.2.1, .inr ⟨_, x.2.2.2⟩⟩
theorem SkyQ.held {G : Heap} {l : List PySem.Env} {a L : Addr} {Z : Obj → Prop} {h : Heap} (x : HandSPX.HeldZ G l a Z L h) : SkyQ G l a Z h :=
  ⟨x.1, x.2.1, x.2.2.1, .inr ⟨_, x.2.2.2⟩⟩
/-- it is noted at the frame -/
theorem SkyQ.note {M : Model} {A : Around} {E : Value → Shared → Prop} {s : Shared} {Z : Obj → Prop} {G : Heap} {env : PySem.Env} {outer : List PySem.Env}
    {L a : Addr} {Q : Unit → Shared → Prop} (hZ : PXN.Steady1 Z) (hfr : A.frames = some (env :: outer)) (hf : env.frame = some L)
    (x : SkyQ G (env :: outer) a Z s.heap)
    (hQ : ∀ h', HandSPX.HeldZ G (env :: outer) a Z L h' → s.heap.UpToSlots h' → Q () { s with heap := h' }) :
    wpAny M A (noteFrame (.ref a) env) Q E s := by
  obtain ⟨st, na, ff, x⟩ := x
  rcases x with ⟨ob, fl, he, hz, hd, h1⟩ | ⟨v, tr⟩
  · exact PXN.look_newZ hZ hfr ff hf he st na hd h1 hz hQ
  · by_cases hv : v = rawInt L
    · subst hv
      exact HandSPX.againZ hf tr (hQ s.heap ⟨st, na, ff, tr⟩ (Heap.UpToSlots.refl _))
    · obtain ⟨ob, fl, T, oT, tf, he, hz, hd, h1, nT, Ta, hT, hdT, h3⟩ := tr
      unfold noteFrame
      simp only [hf]
      refine wpAny_bind (wpAny_field he hd h1 ?_)
      rw [if_pos (by simp : (Value.ref T != Value.none) = true)]
      refine wpAny_bind (wpAny_field hT hdT h3 ?_)
      rw [if_neg (by simpa using hv)]
      refine wpAny_bind (wpAny_setField hT hdT (Array.getElem?_eq_some_iff.mp h3).1 ?_)
      have off : ∀ b, b ≠ T → (s.heap.update T (Obj.mapFields (·.setIfInBounds 3 Value.none))).get? b = s.heap.get? b := by
        intro b hb; exact Heap.get?_update_other _ _ (Ne.symm hb)
      have nr : ∀ b o, s.heap.get? b = some o → (∀ vs, o.data ≠ .fields vs) → b ≠ T := by
        intro b o hb hn q
        rw [q, hT] at hb
        cases hb
        exact hn tf hdT
      refine PXN.wpAny_entryZ hZ hfr (ff.of_keeps ?_) hf ((off a (Ne.symm Ta)).trans he) ?_ na hd (Array.getElem?_eq_some_iff.mp h1).1 hz ?_
      · intro b o hb hn; exact ⟨o, (off b (nr b o hb hn)).trans hb, rfl⟩
      · intro b o hb
        refine (off b ?_).trans (st b o hb)
        intro q; rw [q, nT] at hb; cases hb
      · intro h' hN
        obtain ⟨x1, x2, x3, x4⟩ := hN
        exact hQ h' ⟨x1, na, x2, x3⟩ fun b o hb hn => x4 b o ((off b (nr b o hb hn)).trans hb) hn
/-- noted, then on the ground -/
theorem SkyQ.land {M : Model} {A : Around} {E : Value → Shared → Prop} {s : Shared} {Z : Obj → Prop} {G : Heap} {env : PySem.Env} {outer : List PySem.Env}
    {L a : Addr} {Q : Unit → Shared → Prop} (hZ : PXN.Steady1 Z) (hfr : A.frames = some (env :: outer)) (hf : env.frame = some L)
    (x : SkyQ G (env :: outer) a Z s.heap)
    (hQ : ∀ h', HandSPX.FlyingZ G (env :: outer) a Z h' → s.heap.UpToSlots h' → Q () { s with heap := h' }) :
    wpAny M A (noteFrame (.ref a) env) (fun _ z => wpAny M A (setFlight (.ref a) none) Q E z) E s :=
  SkyQ.note hZ hfr hf x fun h1 hh up => HandSPX.landsZ hh fun h2 fl up2 => hQ h2 fl (up.trans up2)

/-- in the air of X -/
def XQ (X : Cx) (W : WX) (u : Value) (z : Shared) : Prop :=
  ∃ (a : Addr) (G : Heap) (y : Shared) (pins : List (Addr × Obj)) (σ : L2.St) (H : Hp) (c : Value) (t : Addr),
    u = .ref a ∧ Inv X pins σ H y ∧ (∀ b o, y.heap.get? b = some o → b ∉ frs X.stack → G.get? b = some o) ∧
    y.heap.UpToSlots z.heap ∧ SkyQ G X.stack a (Zt c t) z.heap ∧
    H a = none ∧ z.os = y.os ∧ AllBare z.gens ∧ W c (some t) σ H
def Takes (X : Cx) (W : WX) : Prop := ∀ u z, XQ X W u z → X.xe u z
/-- behind a call that let one out -/
def CXQ (P : Program) (w : World) (outer : List PySem.Env) (H : Hp) (s : Shared) (E : XK) (u : Value) (z : Shared) : Prop :=
  ∃ (a : Addr) (G : Heap) (H' : Hp) (c : Value) (t : Addr),
    u = .ref a ∧ HandSPX.FlyingZ G outer a (Zt c t) z.heap ∧ HOk P w H' G ∧ UB (frs outer) H H' s.heap G z.heap ∧
    H' a = none ∧ z.os = s.os ∧ AllBare z.gens ∧ E c (some t) H'

section
variable {X : Cx} {pins : List (Addr × Obj)} {σ : L2.St} {H : Hp} {y s z : Shared} {G : Heap} {W : WX} {E : XK}

theorem XQ.of_call (I : Inv X pins σ H s) (hW : ∀ c d J, E c d J → W c d σ J)
    {u : Value} (q : CXQ X.prog X.w X.stack H s E u z) : XQ X W u z := by
  obtain ⟨a, G, J, c, t, rfl, fl, ok, ub, na, os, ag, hE⟩ := q
  obtain ⟨F, f1, f2⟩ := restrict z.heap fun b => (G.get? b).isSome || decide (b ∈ frs X.stack)
  have inG : ∀ b o, G.get? b = some o → F.get? b = some o := by
    intro b o e
    rw [f1 b (by simp [e])]; exact fl.1 b o e
  have inF : ∀ b, b ∈ frs X.stack → F.get? b = z.heap.get? b := by
    intro b hb
    exact f1 b (by simp [hb])
  have back : ∀ b o, F.get? b = some o → z.heap.get? b = some o ∧ ((G.get? b).isSome = true ∨ b ∈ frs X.stack) := by
    intro b o e
    cases k : ((G.get? b).isSome || decide (b ∈ frs X.stack)) with
    | true => rw [f1 b k] at e; exact ⟨e, by simpa [Bool.or_eq_true] using k⟩
    | false => rw [f2 b k] at e; cases e
  have J1 : Inv X pins σ J { s with heap := F, gens := z.gens, drawn := z.drawn, toks := z.toks } := by
    refine I.call (ch := []) ?_ (ok.kept inG) ag (fun _ k => nomatch k)
    refine ⟨?_, ?_, ?_, ?_, ub.tups, ub.frzs, ub.tbls⟩
    · intro b o e n hb _; exact inG b o (ub.keep b o e n hb)
    · intro b o e n hb _
      obtain ⟨sl, k⟩ := ub.slot b o e hb
      exact ⟨sl, (inF b hb).trans k⟩
    · intro b o e n _; exact ub.free b o e n
    · intro b o e _
      by_cases hb : b ∈ frs X.stack
      · obtain ⟨sl, k⟩ := ub.slot b o e hb
        exact ⟨_, (inF b hb).trans k⟩
      · obtain ⟨v, k⟩ := ub.there b o e hb
        exact ⟨v, inG b v k⟩
  refine ⟨a, G, _, pins, σ, J, c, t, rfl, J1, ?_, ?_, SkyQ.flying fl, na, os, ag, hW _ _ _ hE⟩
  · intro b o e hb
    obtain ⟨e1, k⟩ := back b o e
    rcases k with k | k
    · obtain ⟨v, k⟩ := Option.isSome_iff_exists.mp k
      have e2 := fl.1 b v k
      rw [e1] at e2; cases e2; exact k
    · exact absurd k hb
  · exact Heap.UpToSlots.of_keeps fun b o e => (back b o e).1

theorem XQ.made {a t : Addr} {ob : Obj} {fl : Array Value} {c : Value} (I : Inv X pins σ H y)
    (k : ∀ b o, y.heap.get? b = some o → z.heap.get? b = some o) (hn : y.heap.get? a = none) (he : z.heap.get? a = some ob)
    (hz : Zt c t ob) (hd : ob.data = .fields fl) (h1 : fl[1]? = some .none) (na : H a = none) (os : z.os = y.os) (ag : AllBare z.gens)
    (w : W c (some t) σ H) : XQ X W (.ref a) z := by
  have no : (PySem.W.hideAll y.heap (frs X.stack)).get? a = none := by
    cases q : (PySem.W.hideAll y.heap (frs X.stack)).get? a with
    | none => rfl
    | some o => have e := PySem.W.of_hideAll _ q; rw [hn] at e; cases e
  refine ⟨a, _, y, pins, σ, H, c, t, rfl, I, fun b o e hb => PySem.W.hideAll_get _ e hb, Heap.UpToSlots.of_keeps k, ?_, na, os, ag, w⟩
  refine ⟨fun b o e => k b o (PySem.W.of_hideAll _ e), no, ?_, .inl ⟨ob, fl, he, hz, hd, h1⟩⟩
  refine Heap.FunFrames.of_keeps (fun b o e _ => ⟨o, k b o e, rfl⟩) ?_
  exact funFrames_none I.stack fun b hb => PySem.W.hideAll_none _ hb

theorem XQ.leave (hs : X.stack = X.env :: X.outer) (hf : X.env.frame = some X.env.locals) (hx : X.ex = []) {E1 : Value → Shared → Prop}
    (hW : ∀ c d σ J, W c d σ J → E c d J) {u : Value} (x : XQ X W u z) :
    wpAny (model X.prog X.w) X.A (leaving X.env u) (fun _ z' => CXQ X.prog X.w X.outer X.H_0 X.s_0 E u z') E1 z := by
  obtain ⟨a, G, y, pins, σ, H, c, t, rfl, I, nb, up, sky, na, os, ag, w⟩ := x
  have hfr : X.A.frames = some (X.env :: X.outer) := by rw [I.ok.frames, hs]
  have out : ∀ b o, X.s_0.heap.get? b = some o → b ∉ X.fs → b ∉ frs X.stack := by
    intro b o e hb hm
    rcases List.mem_cons.mp (I.stkSub b hm) with q | q
    · have l1 := Heap.lt_size e
      rw [q] at l1
      exact absurd (Nat.lt_of_lt_of_le l1 I.ok.above) (Nat.lt_irrefl _)
    · exact hb q
  have nx : ∀ b, b ∉ X.ex := by
    intro b hb; rw [hx] at hb; cases hb
  have gr := I.inGround nb
  have fin : ∀ h', HandSPX.FlyingZ G X.outer a (Zt c t) h' → z.heap.UpToSlots h' → CXQ X.prog X.w X.outer X.H_0 X.s_0 E (.ref a) { z with heap := h' } := by
    intro h' fl up'
    refine ⟨a, G, H, c, t, rfl, fl, gr, ?_, na, os.trans I.os, ag, hW _ _ _ _ w⟩
    refine ⟨?_, ?_, ?_, ?_, I.base.tups, I.base.frzs, I.base.tbls⟩
    · intro b o e n hb; exact nb b o (I.base.keep b o e n hb (nx b)) (out b o e hb)
    · intro b o e hb
      obtain ⟨_, o1, e1, nf⟩ := I.ok.funs.mem hb
      rw [e] at e1; cases e1
      obtain ⟨s1, q1⟩ := I.base.slot b o e (I.ok.frf b hb) hb (nx b)
      obtain ⟨s2, q2⟩ := up b _ q1 nf
      obtain ⟨s3, q3⟩ := up' b _ q2 nf
      exact ⟨s3, q3⟩
    · intro b o e n; exact I.base.free b o e n (nx b)
    · intro b o e hb
      obtain ⟨v, q⟩ := I.base.there b o e (nx b)
      exact ⟨v, nb b v q (out b o e hb)⟩
  rw [hs] at sky
  unfold leaving
  refine wpAny_bind (SkyQ.land Zt.steady hfr hf sky fun h2 fl up2 => ?_)
  obtain ⟨k1, k2, ⟨_, _, k3⟩, k4⟩ := fl
  exact fin h2 ⟨k1, k2, k3, k4⟩ up2
theorem takes_def (hs : X.stack = X.env :: X.outer) (hf : X.env.frame = some X.env.locals) (hx : X.ex = []) {E1 : Value → Shared → Prop}
    (e : X.xe = fun u z => wpAny (model X.prog X.w) X.A (leaving X.env u) (fun _ z' => CXQ X.prog X.w X.outer X.H_0 X.s_0 E u z') E1 z) :
    Takes X (fun c d _ J => E c d J) := by
  intro u z x
  rw [e]
  exact XQ.leave (W := fun c d _ J => E c d J) hs hf hx (fun _ _ _ _ h => h) x
/-- what a callee lets out, at the slots σ -/
theorem passAt (tk : Takes X W) (σ : L2.St) : PassesAt (CXQ X.prog X.w) X σ (WE W σ) :=
  fun _ _ _ u z I q => tk u z (XQ.of_call I (fun _ _ _ h => h) q)
end

/-! ### raise X(e) -/
/-- an expression that makes an exception -/
def MkQ (X : Cx) (pins : List (Addr × Obj)) (σ : L2.St) (Q : XK) (u : Value) (z : Shared) : Prop :=
  ∃ (a : Addr) (ob : Obj) (fl : Array Value) (y : Shared) (J : Hp) (c : Value) (t : Addr),
    u = .ref a ∧ Inv X pins σ J y ∧ (∀ b o, y.heap.get? b = some o → z.heap.get? b = some o) ∧ y.heap.get? a = none ∧
    z.heap.get? a = some ob ∧ Zt c t ob ∧ ob.data = .fields fl ∧ fl[1]? = some .none ∧ J a = none ∧ z.os = y.os ∧ AllBare z.gens ∧
    Raises X c ∧ Q c (some t) J
def PMQ (X : Cx) (e : Expr) (t : L2.St → Hp → XK → Prop) : Prop :=
  ∀ (pins : List (Addr × Obj)) (s : Shared) (σ : L2.St) (H : Hp) (Q : XK), Inv X pins σ H s → t σ H Q →
    wpAny (model X.prog X.w) X.A (eval e X.env) (MkQ X pins σ Q) X.xe s
theorem ps_raiseQ {X : Cx} {W : WX} {e : Expr} {t : L2.St → Hp → XK → Prop} {pos : Pos}
    (hc : X.calm = true) (tk : Takes X W) (he : PMQ X e t) : PS X (.Raise (some e) none pos) (fun _ σ H => t σ H fun c d J => W c d σ J) := by
  refine ⟨fun pins s σ H D I h => ?_⟩
  show wpAny _ _ (do standAt pos; raiseStmt X.env (some (do let v ← eval e X.env; standAt pos; pure v)) none) _ _ _
  refine wpAny_bind (wpAny_standAt (raise_made (I.ok.hd hc) (wpAny_bind ?_)))
  refine wpAny_mono (he pins s σ H _ I h) (fun u s1 hu => wpAny_bind (wpAny_standAt (wpAny_pure ?_))) fun _ _ x => x
  obtain ⟨a, ob, fl, y, J, c, t, rfl, K1, k, hn, ha, hz, hd, h1, na, os, ag, r, q⟩ := hu
  obtain ⟨r1, r2⟩ := r (model X.prog X.w) s1.heap (K1.kIn.keeps k)
  exact ⟨a, ob, fl, c, rfl, ha, hz.1, hd, h1, r1, r2, tk _ _ (XQ.made K1 k hn ha hz hd h1 na os ag q)⟩
/-- a new object, known by being absent before, is tracked -/
theorem laidN {X : Cx} {pins : List (Addr × Obj)} {σ : L2.St} {H : Hp} {s : Shared} {h' : Heap} {a : Addr} {o : HO} (I : Inv X pins σ H s)
    (k : ∀ b u, s.heap.get? b = some u → h'.get? b = some u) (n : s.heap.get? a = none) (new : ObjOk X.prog X.w (upd H a o) h' a o) :
    Inv X pins σ (upd H a o) { s with heap := h' } := by
  have ha : H a = none := I.hok.gone n
  have hne : ∀ b u, s.heap.get? b = some u → b ≠ a := by
    intro b u e z; rw [z, n] at e; cases e
  refine I.un (t' := s.toks) ⟨?_, ?_, ?_, ?_, ?_, ?_, ?_⟩ ?_
  · intro b u e _ _ _; exact k b u e
  · intro b u e _ _ _; exact ⟨u.slots, k b u e⟩
  · intro b u e z _; rw [upd_ne (hne b u e)]; exact z
  · intro b u e _; exact ⟨u, k b u e⟩
  · intro b xs e; rw [upd_ne (ne_of_none e ha)]; exact e
  · intro b u xs e; rw [upd_ne (ne_of_none e ha)]; exact e
  · intro b ps e; exact ⟨#[], by rw [upd_ne (ne_of_none e ha), e]; simp⟩
  · intro b u e
    by_cases hb : b = a
    · subst hb; rw [upd_same] at e; cases e; exact new
    · rw [upd_ne hb] at e
      refine (I.hok b u e).stay (fun c v _ q => k c v q) ?_ ?_
      · intro c q; rw [upd_ne (ne_of_none q ha)]; exact q
      · intro c xs q; rw [upd_ne (ne_of_none q ha)]; exact q
/-- X(e): the tuple of the argument is tracked -/
theorem pmq_own {X : Cx} {C : Addr} {bmB : List Value} {B newId initId : String} {x : Str} {e : Expr} {ta : TE} {p pos : Pos}
    (F : ExcBaseFacts B newId initId bmB) (q : PySem.W.excIn X.K C bmB newId = true) (gC : X.mg x = some (.ref C))
    (kC : PySem.W.keepIn X.K (.ref C) = true) (r : Raises X (.ref C)) (hg : Gl X x) (he : PE X e ta)
    (hs : starEach [e] X.env = (false, eval e X.env) :: starEach [] X.env) (hdb : (x == ("__debug__" : Str)) = false) :
    PMQ X (.Call (.Name x p) [e] [] pos) (fun σ H Q => ta σ H fun v J => ∀ t, J t = none → Q (.ref C) (some t) (upd J t (.tup [v]))) := by
  intro pins s σ H Q I h
  refine wpAny_Call_Name_kw (ld_glob I hg gC ?_ hdb)
  refine PySem.W.callWith_K (h₀ := X.base) I.ok.mod.kin kC ?_ hs (by rfl)
  rw [hs]
  show wpAny _ _ (spliced ((false, eval e X.env) :: backTo pos (starEach [] X.env))) _ _ s
  refine Calls.spliced_cons (thn (he.run pins s σ H _ I h) fun u s1 ⟨v, J, I1, r1, q1⟩ => ?_)
  refine Calls.spliced_nil ⟨I1.kIn, ?_⟩
  show wpAny _ _ (call (.ref C) [u]) _ _ _
  obtain ⟨bm, Na, nm, qn, bs, hdct, sn, sub, ab, col, dd, k0, k1, k2, k3, k5, mN, hC, hN, hni, T⟩ := exc_obj I1.kIn q
  refine wpAny_call_exc_subT F T hC hN hni (fun h' a hm => ?_) (by show 1 ≤ sizeLine; rw [sizeLine_eq]; omega)
  obtain ⟨t, ha, ht, hb⟩ := hm.there
  -- the state with the tuple alone
  obtain ⟨Fh, f1, f2⟩ := restrict h' fun b => decide (b ≠ a)
  have fk : ∀ b o, s1.heap.get? b = some o → Fh.get? b = some o := by
    intro b o e
    have hb : b ≠ a := fun z => by rw [z, hm.new] at e; cases e
    rw [f1 b (by simp [hb])]; exact hm.keeps b o e
  have ta_ : t ≠ a := fun z => by
    rw [z, ha] at hb
    have hb := Option.some.inj hb
    have := congrArg Obj.data hb
    cases this
  have I2 : Inv X pins σ (upd J t (.tup [v])) { s1 with heap := Fh } := by
    refine laidN I1 fk ht ⟨by show 1 ≤ sizeLine; rw [sizeLine_eq]; omega, [u], .cons r1 .nil, { cls := .type "tuple", data := .seq #[u] }, ?_, rfl, _, rfl⟩
    rw [f1 t (by simp [ta_])]; exact hb
  refine ⟨a, _, _, { s1 with heap := Fh }, upd J t (.tup [v]), .ref C, t, rfl, I2, ?_, ?_, ha, ⟨rfl, rfl, _, rfl, rfl⟩, rfl, rfl, ?_, rfl, I1.bare, r, q1 t (I1.hok.gone ht)⟩
  · intro b o e
    by_cases hb : b = a
    · subst hb; rw [f2 b (by simp)] at e; cases e
    · rw [f1 b (by simp [hb])] at e; exact e
  · exact f2 a (by simp)
  · rw [upd_ne (Ne.symm ta_)]; exact I1.hok.gone hm.new
end MX

set_option linter.all false
set_option maxRecDepth 100000
set_option maxHeartbeats 2000000
/-! MiniPy: list comprehensions whose turns may raise. -/
namespace MX
open PySem PySem.Spec PyProof.Rows L2

/-- a comprehension's block, with what is wished of exceptions -/
abbrev blkX (X : Cx) (s : Shared) (H : Hp) (scope : Scope) (ce : PySem.Env) (fp : List Addr) (xe : Value → Shared → Prop) : Cx :=
  { X.blk s H scope ce fp with xe := xe }
theorem noteFrame_eq {e : Value} {env env' : PySem.Env} (h : env.frame = env'.frame) : noteFrame e env = noteFrame e env' := by
  unfold noteFrame PySem.frameOf
  rw [h]
theorem frames_at {G G' h h' : Heap} : ∀ {l : List PySem.Env}, h.FunFrames G l → (∀ L ∈ frs l, h'.get? L = h.get? L) → (∀ b, G.get? b = none → G'.get? b = none) → h'.FunFrames G' l
  | [], _, _, _ => trivial
  | env :: l, ⟨hk, ⟨L, o, hf, hn, ho, hd⟩, hr⟩, same, no => by
    have mem : L ∈ frs (env :: l) := List.mem_filterMap.mpr ⟨env, List.mem_cons_self, hf⟩
    refine ⟨hk, ⟨L, o, hf, no L hn, by rw [same L mem]; exact ho, hd⟩, frames_at hr (fun b hb => same b ?_) no⟩
    obtain ⟨e, he, q⟩ := List.mem_filterMap.mp hb
    exact List.mem_filterMap.mpr ⟨e, List.mem_cons_of_mem _ he, q⟩

/-- what flew out of a block's turn, noted, behind the block's names -/
theorem block_raise {X : Cx} {pins : List (Addr × Obj)} {σ : L2.St} {W : WX} {H3 : Hp} {s3 : Shared} {scope : Scope} {ce : PySem.Env} {fp : List Addr}
    {use : Option (Value → Sem Unit)} {Qf : Value → Shared → Prop} {D u : Value} {z : Shared}
    (hs : ∃ e l, X.stack = e :: l ∧ e.frame = X.env.frame) (hL : ∃ L, X.env.frame = some L) (tk : Takes X W) (I3 : Inv X pins σ H3 s3)
    (f3 : ∀ b ∈ fp, FpOk X pins H3 b ∧ b < s3.heap.objs.size) (cL : ce.locals = s3.heap.objs.size) (cf : ce.frame = X.env.frame)
    (x : XQ (X.blk s3 H3 scope ce fp) (fun c d _ J => W c d σ J) u z) :
    notedBy (model X.prog X.w) X.A ce (fun e z' => compPost (model X.prog X.w) X.A X.xe use Qf D s3.heap.objs.size (.error e) z') u z := by
  obtain ⟨a, G, y, pins', σ', H, c, t, rfl, J, nb, up, sky, na, os, ag, w⟩ := x
  obtain ⟨en, l, hst, hfe⟩ := hs
  obtain ⟨L, hL⟩ := hL
  have hfr : X.A.frames = some (en :: l) := by rw [I3.ok.frames, hst]
  have sky1 : SkyQ G (en :: l) a (Zt c t) z.heap := by rw [← hst]; exact sky
  -- back in the def's context
  have I7 : Inv X pins σ H y := I3.call' (ch := fp) J.os J.base J.hok J.bare fun b hb => ⟨(f3 b hb).1.2.2.2.1, (f3 b hb).1.2.1, (f3 b hb).1.2.2.2.2.1, (f3 b hb).1.2.2.2.2.2⟩
  have nC : H s3.heap.objs.size = none := by
    have q : H ce.locals = none := J.free
    rw [cL] at q; exact q
  have fpC : FpOk X pins H s3.heap.objs.size := I3.fpOk (Nat.le_refl _) nC
  obtain ⟨m, hm, _⟩ := J.loc
  have hm : y.heap.Ns ce.locals m := hm
  rw [cL] at hm
  obtain ⟨oC, esC, epC, hC, dC, rC⟩ := hm
  have nf : ∀ {fl : Array Value}, oC.data ≠ .fields fl := fun q => by rw [dC] at q; cases q
  show wpAny _ _ (noteFrame (.ref a) ce) _ _ z
  rw [noteFrame_eq (cf.trans hfe.symm)]
  refine SkyQ.note Zt.steady hfr (hfe.trans hL) sky1 fun h2 held up2 => ?_
  have up12 := up.trans up2
  obtain ⟨sC, hC2⟩ := up12 _ _ hC fun vs => nf
  show compPost _ _ _ _ _ _ _ _ _
  have goal : ∃ m, h2.Ns s3.heap.objs.size m ∧ ∀ h', Heap.SameBut s3.heap.objs.size h2 h' → ∀ cenv : PySem.Env, cenv.locals = s3.heap.objs.size →
      wpAny (model X.prog X.w) X.A (passOn "comprehension.variables-let-go" (.ref a) cenv : Sem Value) (fun _ _ => False) X.xe { z with heap := h' } := by
    refine ⟨m, ⟨_, esC, epC, hC2, dC, rC⟩, fun h' sb cenv _ => ?_⟩
    obtain ⟨st, nG, ff, ob, fl, T, oT, tf, he, hz, hd, h1, nT, Ta, hT, hdT, h3⟩ := held
    have aC : a ≠ s3.heap.objs.size := fun q => by
      rw [q, hC2] at he
      have q2 := Option.some.inj he
      rw [← q2] at hd
      exact nf hd
    have TC : T ≠ s3.heap.objs.size := fun q => by
      rw [q, hC2] at hT
      have q2 := Option.some.inj hT
      rw [← q2] at hdT
      exact nf hdT
    have LC : ∀ b ∈ frs (en :: l), b ≠ s3.heap.objs.size := fun b hb => by
      rw [← hst] at hb
      rcases List.mem_cons.mp (I7.stkSub b hb) with q | q
      · rw [q]; exact fun q => fpC.2.1 q.symm
      · intro q2; rw [q2] at q; exact fpC.2.2.1 q
    -- the ground without the block's names
    have G1 : ∀ b o, (PySem.W.hideAll G [s3.heap.objs.size]).get? b = some o → G.get? b = some o ∧ b ≠ s3.heap.objs.size := fun b o e => by
      refine ⟨PySem.W.of_hideAll _ e, fun q => ?_⟩
      have := PySem.W.hideAll_none (h := G) [s3.heap.objs.size] (b := b) (by rw [q]; exact List.mem_singleton.mpr rfl)
      rw [this] at e; cases e
    have G0 : ∀ b, G.get? b = none → (PySem.W.hideAll G [s3.heap.objs.size]).get? b = none := fun b e => by
      cases q : (PySem.W.hideAll G [s3.heap.objs.size]).get? b with
      | none => rfl
      | some o => have := (G1 b o q).1; rw [e] at this; cases this
    have st' : (PySem.W.hideAll G [s3.heap.objs.size]).StaysIn h' := fun b o e => by
      obtain ⟨e1, e2⟩ := G1 b o e
      exact (sb.2 b e2).trans (st b o e1)
    have ff' : h'.FunFrames (PySem.W.hideAll G [s3.heap.objs.size]) (en :: l) := frames_at ff (fun b hb => sb.2 b (LC b hb)) G0
    have tr' : HandSPX.TracedZ h' (PySem.W.hideAll G [s3.heap.objs.size]) a (Zt c t) (rawInt L) :=
      ⟨ob, fl, T, oT, tf, (sb.2 a aC).trans he, hz, hd, h1, G0 T nT, Ta, (sb.2 T TC).trans hT, hdT, h3⟩
    unfold PySem.passOn
    refine wpAny_bind (wpAny_field ((sb.2 a aC).trans he) hd h1 ?_)
    rw [if_neg (show ¬ ((Value.ref T == Value.none) = true) from by simp)]
    have fin : wpAny (model X.prog X.w) X.A (setFlight (.ref a) cenv.frame) (fun _ z4 => wpAny (model X.prog X.w) X.A (throw (.ref a) : Sem Value) (fun _ _ => False) X.xe z4) X.xe { z with heap := h' } := by
      refine HandSPX.setFlight_anyZ st' ff' tr' fun h4 k1 k2 k3 k4 => wpAny_throw (tk _ _ ?_)
      obtain ⟨g0, g1, g2, g3, g4, g5⟩ := fpC
      have Y1 : Inv X pins σ H { y with heap := PySem.W.hideAll y.heap [s3.heap.objs.size] } :=
        I7.turned (t' := y.toks) (fun b o hb e => PySem.W.hideAll_get _ e fun q => hb (List.mem_singleton.mp q)) g0 g1 g3 g4 g5
      have yh : ∀ b o, (PySem.W.hideAll y.heap [s3.heap.objs.size]).get? b = some o → y.heap.get? b = some o ∧ b ≠ s3.heap.objs.size := fun b o e => by
        refine ⟨PySem.W.of_hideAll _ e, fun q => ?_⟩
        have := PySem.W.hideAll_none (h := y.heap) [s3.heap.objs.size] (b := b) (by rw [q]; exact List.mem_singleton.mpr rfl)
        rw [this] at e; cases e
      refine ⟨a, _, _, pins, σ, H, c, t, rfl, Y1, fun b o e hb => ?_, fun b o e hn => ?_, ⟨k1, G0 a nG, by rw [hst]; exact k2, .inr ⟨_, k3⟩⟩, na, os, ag, w⟩
      · obtain ⟨e1, e2⟩ := yh b o e
        exact PySem.W.hideAll_get _ (nb b o e1 hb) fun q => e2 (List.mem_singleton.mp q)
      · obtain ⟨e1, e2⟩ := yh b o e
        obtain ⟨s1, q1⟩ := up12 b o e1 hn
        have q2 : h'.get? b = some { o with slots := s1 } := (sb.2 b e2).trans q1
        obtain ⟨s2, q3⟩ := k4 b _ q2 hn
        exact ⟨s2, q3⟩
    first
      | exact wpAny_bind fin
      | exact wpAny_bind (wpAny_pure (wpAny_bind fin))
  cases use <;> exact goal

section
variable {X : Cx}
/-- [elt for target in iter if ..], as tLc, the readings by the frame ahead -/
def tLcX (wi : TI) (g : TG) (tt : L2.St → TT) (te : L2.St → TE) (vs : List Nat) : TE := fun σ H Q => tLc wi g (tt σ) (te σ) vs σ H Q
theorem lc_coreX {pins : List (Addr × Obj)} {s : Shared} {σ : L2.St} {H : Hp} {W : WX} {Q : VK} {elt tg iter : Expr} {ifs : List Expr} {scope : Scope} {own : List (Str × Nat)} {pos pos' : Pos} {wi : TI} {g : TG} {tt : TT} {te : TE} {use : Option (Value → Sem Unit)} {Qf : Value → Shared → Prop}
    (hst : ∃ e l, X.stack = e :: l ∧ e.frame = X.env.frame) (hL : ∃ L, X.env.frame = some L) (tk : Takes X W)
    (hc : X.calm = true) (hN : X.N.Nodup) (I : Inv X pins σ H s) (hi : PI X tg iter wi) (ok : BlkOk X.N X.env.scope scope own)
    (hg : ∀ (s : Shared) (H : Hp) (C : Addr) (cl : List (Str × Addr)) (fp : List Addr) (xe : Value → Shared → Prop), PG (blkX X s H scope (compEnvC scope cl C X.env) fp xe) tg g)
    (ht : ∀ (s : Shared) (H : Hp) (C : Addr) (cl : List (Str × Addr)) (fp : List Addr) (xe : Value → Shared → Prop),
      Takes (blkX X s H scope (compEnvC scope cl C X.env) fp xe) (fun c d _ J => W c d σ J) → PTs (blkX X s H scope (compEnvC scope cl C X.env) fp xe) ifs tt)
    (he : ∀ (s : Shared) (H : Hp) (C : Addr) (cl : List (Str × Addr)) (fp : List Addr) (xe : Value → Shared → Prop),
      Takes (blkX X s H scope (compEnvC scope cl C X.env) fp xe) (fun c d _ J => W c d σ J) → PE (blkX X s H scope (compEnvC scope cl C X.env) fp xe) elt te)
    (hs : ∀ x, foldedSetIterable iter X.env x = pure x)
    (h : tLc wi g tt te (own.map (·.2)) σ H Q)
    (hRR : ∀ D C z m J, Inv X pins σ J z → Q (.ref D) J → z.heap.Ns C m → FpOk X pins J C → compPost (model X.prog X.w) X.A X.xe use Qf (.ref D) C (.ok .next) z) :
    wpAny (model X.prog X.w) X.A (comprehension (.ListComp elt [⟨tg, iter, ifs, 0⟩] scope pos) scope X.env pos' (newList []) false (eval iter X.env) use) Qf X.xe s := by
  have hfree : ∀ q ∈ scope.names, q.2 = .free → ∃ c, X.env.cells.lookup q.1 = some c := by
    intro q hq e
    rcases ok.free q hq e with k | k
    · exact I.ok.has _ (.inl k)
    · exact I.ok.has _ (.inr k)
  refine wpAny_comprehension_free (use := use) rfl hs (closure_ok hfree) ok.kind (fun q hq e => by rw [ok.uniq q hq, e]) ?_
  refine thn (hi.run pins s σ H _ I h) fun xv s1 hx => thn hx fun itv s2 h2 => ?_
  obtain ⟨it, fp, tn, J, H2, e, I2, TT, st2, f2, q⟩ := h2
  subst e
  refine wpAny_newObj_type (newEnv_comp ?_) (by show 0 ≤ sizeLine; decide)
  generalize hD : s2.heap.objs.size = D
  have freeD : H2 D = none := I2.hok.fresh (Nat.le_of_eq hD)
  obtain ⟨V, ⟨m0, w0⟩, turn⟩ := q D freeD
  generalize hs3 : ({ s2 with heap := s2.heap.push { cls := .type "list", data := .seq ([] : List Value).toArray } } : Shared) = s3
  have p3 : s3.heap = s2.heap.push { cls := .type "list", data := .seq ([] : List Value).toArray } := by rw [← hs3]
  have I3 : Inv X pins σ (upd H2 D (.lst [])) s3 := by
    rw [← hs3]
    refine I2.laid (t' := s2.toks) (fun b o e => Heap.get?_push_of_some _ e) (Nat.le_of_eq hD) ⟨Nat.zero_le _, [], 0, .nil, ?_⟩
    rw [← hD]; exact Heap.get?_push_size _ rfl
  have small : ∀ b ∈ fp, b < s2.heap.objs.size := by
    intro b hb
    obtain ⟨o, e, _⟩ := TT.obj _ _ st2 b hb
    exact Heap.lt_size e
  have f3 : ∀ b ∈ fp, FpOk X pins (upd H2 D (.lst [])) b ∧ b < s3.heap.objs.size := by
    intro b hb
    have lt := small b hb
    refine ⟨⟨?_, (f2 b hb).2⟩, ?_⟩
    · rw [upd_ne (by rw [← hD]; exact Nat.ne_of_lt lt)]; exact (f2 b hb).1
    · rw [p3, Heap.size_push]; exact Nat.lt_succ_of_lt lt
  have st3 : tn 0 s3.heap := TT.keep _ _ _ st2 fun b _ o e => by rw [p3]; exact Heap.get?_push_of_some _ e
  have I4 := block_start I3 ok hN f3
  have pg := fun xe => hg s3 (upd H2 D (.lst [])) s3.heap.objs.size (cellsFrom (s3.heap.objs.size + 1) scope.names (cloFrom X.env.cells scope.names [])) fp xe
  have pt := fun xe => ht s3 (upd H2 D (.lst [])) s3.heap.objs.size (cellsFrom (s3.heap.objs.size + 1) scope.names (cloFrom X.env.cells scope.names [])) fp xe
  have pe := fun xe => he s3 (upd H2 D (.lst [])) s3.heap.objs.size (cellsFrom (s3.heap.objs.size + 1) scope.names (cloFrom X.env.cells scope.names [])) fp xe
  show codeAny _ _ (.compStart (.ListComp elt [⟨tg, iter, ifs, 0⟩] scope pos) 0 (.ref it) (.ref D) (compEnvC scope (cellsFrom (s3.heap.objs.size + 1) scope.names (cloFrom X.env.cells scope.names [])) s3.heap.objs.size X.env)) (compPost (model X.prog X.w) X.A X.xe use Qf (.ref D) s3.heap.objs.size) { s3 with heap := pushCells (s3.heap.push { cls := .type "dict", data := .dict #[] }) scope.names }
  have nfp : ∀ b ∈ fp, (upd H2 D (.lst [])) b = none := fun b hb => (f3 b hb).1.1
  generalize hce : compEnvC scope (cellsFrom (s3.heap.objs.size + 1) scope.names (cloFrom X.env.cells scope.names [])) s3.heap.objs.size X.env = ce at I4 pg pt pe ⊢
  have cL : ce.locals = s3.heap.objs.size := by subst hce; rfl
  have cF : ce.frame = X.env.frame := by subst hce; rfl
  generalize hH3 : upd H2 D (.lst []) = H3 at I3 I4 pg pt pe w0 nfp f3
  generalize hs4 : ({ s3 with heap := pushCells (s3.heap.push { cls := .type "dict", data := .dict #[] }) scope.names } : Shared) = s4 at I4 ⊢
  have st4 : tn 0 s4.heap := TT.keep _ _ _ st3 fun b _ o e => by rw [← hs4]; exact pushCells_keeps _ _ _ _ (Heap.get?_push_of_some _ e)
  -- the block's wish
  obtain ⟨xb, hxb⟩ : ∃ xb : Value → Shared → Prop, xb = fun u z => XQ (X.blk s3 H3 scope ce fp) (fun c d _ J => W c d σ J) u z := ⟨_, rfl⟩
  have tkb : Takes (blkX X s3 H3 scope ce fp xb) (fun c d _ J => W c d σ J) := by
    intro u z ⟨a, G, y, p, σ1, J1, c, t, e, I1, r⟩
    show xb u z
    rw [hxb]
    exact ⟨a, G, y, p, σ1, J1, c, t, e, I1.wish (fun _ _ => False), r⟩
  have out : ∀ u z, xb u z → notedBy (model X.prog X.w) X.A ce (fun e z' => compPost (model X.prog X.w) X.A X.xe use Qf (.ref D) s3.heap.objs.size (.error e) z') u z := by
    intro u z x
    rw [hxb] at x
    exact block_raise hst hL tk I3 f3 cL cF x
  have pg := pg xb
  have pt := pt xb tkb
  have pe := pe xb tkb
  have I4 : Inv (blkX X s3 H3 scope ce fp xb) [] (wipe σ (own.map (·.2))) H3 s4 := I4.wish xb
  have stat : ∀ {σ' : L2.St} {J' : Hp} {z : Shared}, Inv (blkX X s3 H3 scope ce fp xb) [] σ' J' z → (∀ b ∈ fp, J' b = none) → ∀ b ∈ fp, FpOk (blkX X s3 H3 scope ce fp xb) [] J' b := by
    intro σ' J' z I' hn b hb
    exact ⟨hn b hb, (I'.ok.exf b hb).1, I'.ok.exfs b hb, .inl hb, fun x c e => (I'.ok.exf b hb).2 x c e, fun p hp => absurd (show p ∈ ([] : List (Addr × Obj)) ++ [] from hp) (by simp)⟩
  have loop : codeAny (model X.prog X.w) X.A (.compLoop (.ListComp elt [⟨tg, iter, ifs, 0⟩] scope pos) 0 (.ref it) (.ref D) ce) (compPost (model X.prog X.w) X.A X.xe use Qf (.ref D) s3.heap.objs.size) s4 := by
    refine compLoop_any (fun n z => ∃ i J', Inv (blkX X s3 H3 scope ce fp xb) [] (wipe σ (own.map (·.2))) J' z ∧ tn i z.heap ∧ (∀ b ∈ fp, J' b = none) ∧ V i n J') ?_ m0 ⟨0, H3, I4, st4, nfp, w0⟩
    rintro n s5 ⟨i, H5, I5, st5, n5, w5⟩
    rcases turn i n H5 w5 with ⟨stop, qq⟩ | ⟨go, Nx, hNx, step⟩
    · have td := TT.done (blkX X s3 H3 scope ce fp xb) rfl rfl rfl hc i [] s5 _ H5 xb I5 (stat I5 n5) st5 stop
      refine wpAny_mono td (fun r s6 ⟨hr, I6⟩ => ?_) out
      subst hr
      have I7 : Inv X pins σ H5 s6 := I3.call' (ch := fp) I6.os I6.base I6.hok I6.bare fun b hb => ⟨(f3 b hb).1.2.2.2.1, (f3 b hb).1.2.1, (f3 b hb).1.2.2.2.2.1, (f3 b hb).1.2.2.2.2.2⟩
      have nC : H5 s3.heap.objs.size = none := by
        have k : H5 ce.locals = none := I6.free
        rw [cL] at k; exact k
      obtain ⟨m, hn, _⟩ := I6.loc
      have hn : s6.heap.Ns ce.locals m := hn
      rw [cL] at hn
      exact hRR D s3.heap.objs.size s6 m H5 I7 qq hn (I3.fpOk (Nat.le_refl _) nC)
    · have ti := TT.item (blkX X s3 H3 scope ce fp xb) rfl rfl rfl hc i [] s5 _ H5 xb I5 (stat I5 n5) st5 go
      refine wpAny_mono ti (fun r s6 ⟨u, hr, h6⟩ => ?_) out
      subst hr
      refine wpAny_mono h6 (fun _ s7 ⟨x, H7, I7, r7, y7, st7, n7⟩ => ?_) out
      have I7' := I7.pinned (stat I7 n7) (TT.obj _ _ st7)
      refine wpAny_mono (pg.run _ s7 _ H7 x u _ I7' r7 (step x H7 y7)) (fun _ s8 ⟨σ8, H8, I8, hw8, q8⟩ => ?_) out
      refine wpAny_mono (pt.run _ s8 σ8 H8 _ I8 q8) (fun b s9 ⟨H9, I9, q9⟩ => ?_) out
      have fin : ∀ {z : Shared} {J' : Hp}, Inv (blkX X s3 H3 scope ce fp xb) ([] ++ pinsAt fp s7.heap) σ8 J' z → Nx J' →
          ∃ m, m < n ∧ ∃ i J', Inv (blkX X s3 H3 scope ce fp xb) [] (wipe σ (own.map (·.2))) J' z ∧ tn i z.heap ∧ (∀ b ∈ fp, J' b = none) ∧ V i m J' := by
        intro z J' I' nx
        obtain ⟨m', hm, w'⟩ := hNx J' nx
        have pin' : ∀ b ∈ fp, ∀ o, s7.heap.get? b = some o → z.heap.get? b = some o ∧ J' b = none := by
          intro b hb o e
          have k := I'.pin (b, o) (List.mem_append_right _ (List.mem_append_right _ (mem_pinsAt hb e)))
          exact ⟨k.1, k.2.1⟩
        have hl : (wipe σ (own.map (·.2))).length = σ8.length := by rw [← hw8, wipe_length]
        refine ⟨m', hm, i + 1, J', (I'.unpinned (pins := [])).weak hl (fun j v e => ?_), TT.keep _ _ _ st7 fun b hb o e => (pin' b hb o e).1, fun b hb => ?_, w'⟩
        · rw [← hw8] at e
          exact (wipe_some e).1
        · obtain ⟨o, e, _⟩ := TT.obj _ _ st7 b hb
          exact (pin' b hb o e).2
      cases b with
      | false =>
        simp only [Bool.false_eq_true, if_false] at q9 ⊢
        exact fin I9 q9
      | true =>
        simp only [if_true] at q9 ⊢
        refine wpAny_mono (pe.run _ s9 σ8 H9 _ I9 q9) (fun z s10 ⟨yv, H10, I10, r10, acc, hD10, hz10, nx⟩ => ?_) out
        exact app_ok (X := blkX X s3 H3 scope ce fp xb) I10 hD10 hz10 r10 fun s11 I11 => fin I11 nx
  exact codeAny_compStart_list loop (TT.self X.A 0 _ _ _ st4 loop)
end
end MX

set_option linter.all false
set_option maxRecDepth 100000
set_option maxHeartbeats 2000000
/-! MiniPy: try .. except X: suite; except X as n: suite. The suites raise nothing. -/
namespace MX
open PySem PySem.Spec PyProof.Rows L2
section
variable {X : Cx} {x n : Str} {c : Value} {i : Nat} {body suite : List Stmt} {b0 : Stmt} {np pos pos' : Pos} {tb : WX → TS} {ts : Addr → Value → Option Addr → TS} {Wout : WX}

/-- a state of the body's context, where it flew, lands in ours -/
theorem landed_of {pins : List (Addr × Obj)} {σ : L2.St} {H : Hp} {y z : Shared} {G : Heap} (J : Inv X pins σ H y)
    (nb : ∀ b o, y.heap.get? b = some o → b ∉ frs X.stack → G.get? b = some o) (st : G.StaysIn z.heap) (up : y.heap.UpToSlots z.heap)
    (os : z.os = y.os) (ag : AllBare z.gens) : Inv X pins σ H z := J.landed nb st up os ag

theorem ps_tryQ (hs : X.stack = X.env :: X.outer) (hf : X.env.frame = some X.env.locals) (hc : Names X x c) (tk : Takes X Wout)
    (hb : ∀ (W : WX) (pn : List (Addr × Obj)) (xe : Value → Shared → Prop), Takes (X.tr pn xe) W → PassesOwn (model X.prog X.w) X.A X.env xe → PSs (X.tr pn xe) body (tb W))
    (hsu : ∀ (a : Addr) (ob : Obj) (k : Value) (t : Addr) (pn : List (Addr × Obj)), Zt k t ob → PSs (X.suite a ((a, ob) :: pn)) (b0 :: suite) (ts a k (some t))) :
    PS X (.Try body [.ExceptHandler (some (.Name x np)) none (b0 :: suite) pos'] [] [] pos) (fun D σ H => tb (wOnly X.K c ts Wout D) D σ H) := by
  refine ⟨fun pins s σ H D I h => ?_⟩
  have ok := I.ok
  have hfr : X.A.frames = some (X.env :: X.outer) := by rw [ok.frames, hs]
  refine wpAny_Try_except ?_
  have caught : ∀ u z, XQ (X.tr (X.pn ++ pins) (fun e s1 => wpAny (model X.prog X.w) X.A (noteFrame e X.env) (fun _ s2 => wpAny (model X.prog X.w) X.A (setFlight e none) (fun _ s3 =>
      wpAny (model X.prog X.w) X.A (handleBy e X.env [.ExceptHandler (some (.Name x np)) none (b0 :: suite) pos']) (SP X pins D) X.xe s3) X.xe s2) X.xe s1)) (wOnly X.K c ts Wout D) u z →
      wpAny (model X.prog X.w) X.A (noteFrame u X.env) (fun _ s2 => wpAny (model X.prog X.w) X.A (setFlight u none) (fun _ s3 =>
        wpAny (model X.prog X.w) X.A (handleBy u X.env [.ExceptHandler (some (.Name x np)) none (b0 :: suite) pos']) (SP X pins D) X.xe s3) X.xe s2) X.xe z := by
    intro u z q
    obtain ⟨a, G, y, pins', σ', J, k, t, rfl, J0, nb, up, sky, na, os, ag, b, hb1, hyes, hno⟩ := q
    have J1 : Inv X pins σ' J y := J0.ofTry ok
    have sky1 : SkyQ G (X.env :: X.outer) a (Zt k t) z.heap := by rw [← hs]; exact sky
    refine SkyQ.land Zt.steady hfr hf sky1 fun h3 fl3 up3 => ?_
    have J3 : Inv X pins σ' J { z with heap := h3 } := J1.landed nb fl3.1 (up.trans up3) os ag
    obtain ⟨ob3, vs3, he3, hz3, hd3⟩ := fl3.there
    have nofr : a ∉ frs (X.env :: X.outer) := by
      intro hm
      obtain ⟨_, o1, e1, nf⟩ := fl3.2.2.1.mem hm
      rw [he3] at e1; cases e1
      exact nf _ hd3
    have nL : a ≠ X.env.locals := fun q => nofr (List.mem_filterMap.mpr ⟨X.env, List.mem_cons_self, by rw [hf, q]⟩)
    have nF : a ∉ X.fs := by
      intro hm
      obtain ⟨e, he, q⟩ := List.mem_filterMap.mp hm
      exact nofr (List.mem_filterMap.mpr ⟨e, List.mem_cons_of_mem _ he, q⟩)
    have S3 := J3.suite he3 hd3 na nL nF
    refine wpAny_handleBy_cons (codeAny_handlers_test ?_) (by intro q; cases q)
    have LT : PySem.W.Looks (model X.prog X.w) h3 (typeOf (.ref a)) k := fun A Q E s kk q => wpAny_typeOf_ref (kk _ _ he3) (by rw [hz3.1]; exact q)
    have LM := PySem.W.exm_one (M := model X.prog X.w) (J3.kIn) LT hb1
    have test : ∀ {Q E : Value → Shared → Prop}, Q c { z with heap := h3 } → wpAny (model X.prog X.w) (X.A.mark (some (.ref a))) (eval (.Name x np) X.env) Q E { z with heap := h3 } := by
      intro Q E q
      obtain ⟨hg, hdb, hm | ⟨hm, hv, hnn⟩⟩ := hc
      · exact ld_glob (X := X.suite a ((a, ob3) :: (X.pn ++ pins))) S3 hg hm q hdb
      · exact ld_blt (X := X.suite a ((a, ob3) :: (X.pn ++ pins))) S3 hg hm hv q hnn hdb
    refine test (LM.here ?_)
    cases b with
    | true =>
      refine codeAny_handlers_suite ?_
      refine HandSPX.lands_againZ fl3 fun h4 fl4 up4 => ?_
      have J4 : Inv X pins σ' J { z with heap := h4 } := J1.landed nb fl4.1 ((up.trans up3).trans up4) os ag
      obtain ⟨ob4, vs4, he4, hz4, hd4⟩ := fl4.there
      have S4 := J4.suite he4 hd4 na nL nF
      refine wpAny_mono ((hsu a ob4 k t (X.pn ++ pins) hz4).run [] _ _ J _ S4 (hyes rfl a na)) (fun f s6 hsp => ?_) (fun _ _ q => False.elim q)
      cases f with
      | next => obtain ⟨σ6, H6, S6, q6⟩ := hsp; exact ⟨_, _, S6.unsuite ok, q6⟩
      | brk => obtain ⟨σ6, H6, S6, q6⟩ := hsp; exact ⟨_, _, S6.unsuite ok, q6⟩
      | cont => obtain ⟨σ6, H6, S6, q6⟩ := hsp; exact ⟨_, _, S6.unsuite ok, q6⟩
      | ret u => obtain ⟨v6, σ6, H6, S6, r6, q6⟩ := hsp; exact ⟨_, _, _, S6.unsuite ok, r6, q6⟩
    | false =>
      show wpAny _ X.A (handleBy (.ref a) X.env []) _ _ _
      refine wpAny_handleBy_nil ?_
      obtain ⟨k1, k2, k3, ob, fl, T, oT, tf, he, hz, hd, h1, hr⟩ := id fl3
      unfold PySem.passOn
      refine wpAny_bind (wpAny_field he hd h1 ?_)
      rw [if_neg (by simp : ¬ ((Value.ref T == Value.none) = true))]
      have fin : wpAny (model X.prog X.w) X.A (setFlight (.ref a) X.env.frame) (fun _ s4 => wpAny (model X.prog X.w) X.A (throw (.ref a) : Sem Flow) (SP X pins D) X.xe s4) X.xe { z with heap := h3 } := by
        rw [hf]
        refine HandSPX.setFlight_upZ fl3 fun h4 hh4 up4 => wpAny_throw (tk _ _ ?_)
        exact ⟨a, G, y, pins, σ', J, k, t, rfl, J1, nb, (up.trans up3).trans up4, SkyQ.held (by rw [hs]; exact hh4), na, os, ag, hno rfl⟩
      first
        | exact wpAny_bind fin
        | exact wpAny_bind (wpAny_pure (wpAny_bind fin))
  refine wpAny_mono ((hb (wOnly X.K c ts Wout D) (X.pn ++ pins) _ (fun u z q => caught u z q) PassesOwn.looking).run [] s σ H D (I.toTry _) h) (fun f s1 hsp => ?_) (fun e s1 he => he)
  cases f with
  | next => obtain ⟨σ', J, K1, q⟩ := hsp; exact wpAny_execs_nil ⟨σ', J, K1.ofTry ok, q⟩
  | brk => obtain ⟨σ', J, K1, q⟩ := hsp; exact ⟨σ', J, K1.ofTry ok, q⟩
  | cont => obtain ⟨σ', J, K1, q⟩ := hsp; exact ⟨σ', J, K1.ofTry ok, q⟩
  | ret u => obtain ⟨v, σ', J, K1, r, q⟩ := hsp; exact ⟨v, σ', J, K1.ofTry ok, r, q⟩

theorem ps_tryQas (hs : X.stack = X.env :: X.outer) (hf : X.env.frame = some X.env.locals) (hN : X.N.Nodup) (hi : X.N[i]? = some n) (hln : X.env.kindOf n = some .local) (hc : Names X x c) (tk : Takes X Wout)
    (hb : ∀ (W : WX) (pn : List (Addr × Obj)) (xe : Value → Shared → Prop), Takes (X.tr pn xe) W → PassesOwn (model X.prog X.w) X.A X.env xe → PSs (X.tr pn xe) body (tb W))
    (hsu : ∀ (a : Addr) (ob : Obj) (k : Value) (t : Addr) (pn : List (Addr × Obj)), Zt k t ob → PSs (X.suite a ((a, ob) :: pn)) (b0 :: suite) (ts a k (some t))) :
    PS X (.Try body [.ExceptHandler (some (.Name x np)) (some n) (b0 :: suite) pos'] [] [] pos) (fun D σ H => tb (wAs X.K c i ts Wout D) D σ H) := by
  refine ⟨fun pins s σ H D I h => ?_⟩
  have ok := I.ok
  have hfr : X.A.frames = some (X.env :: X.outer) := by rw [ok.frames, hs]
  have hloc : Loc X.env.scope n := .inl hln
  refine wpAny_Try_except ?_
  have caught : ∀ u z, XQ (X.tr (X.pn ++ pins) (fun e s1 => wpAny (model X.prog X.w) X.A (noteFrame e X.env) (fun _ s2 => wpAny (model X.prog X.w) X.A (setFlight e none) (fun _ s3 =>
      wpAny (model X.prog X.w) X.A (handleBy e X.env [.ExceptHandler (some (.Name x np)) (some n) (b0 :: suite) pos']) (SP X pins D) X.xe s3) X.xe s2) X.xe s1)) (wAs X.K c i ts Wout D) u z →
      wpAny (model X.prog X.w) X.A (noteFrame u X.env) (fun _ s2 => wpAny (model X.prog X.w) X.A (setFlight u none) (fun _ s3 =>
        wpAny (model X.prog X.w) X.A (handleBy u X.env [.ExceptHandler (some (.Name x np)) (some n) (b0 :: suite) pos']) (SP X pins D) X.xe s3) X.xe s2) X.xe z := by
    intro u z q
    obtain ⟨a, G, y, pins', σ', J, k, t, rfl, J0, nb, up, sky, na, os, ag, b, hb1, hyes, hno⟩ := q
    have J1 : Inv X pins σ' J y := J0.ofTry ok
    have sky1 : SkyQ G (X.env :: X.outer) a (Zt k t) z.heap := by rw [← hs]; exact sky
    refine SkyQ.land Zt.steady hfr hf sky1 fun h3 fl3 up3 => ?_
    have J3 : Inv X pins σ' J { z with heap := h3 } := J1.landed nb fl3.1 (up.trans up3) os ag
    obtain ⟨ob3, vs3, he3, hz3, hd3⟩ := fl3.there
    have nofr : a ∉ frs (X.env :: X.outer) := by
      intro hm
      obtain ⟨_, o1, e1, nf⟩ := fl3.2.2.1.mem hm
      rw [he3] at e1; cases e1
      exact nf _ hd3
    have nL : a ≠ X.env.locals := fun q => nofr (List.mem_filterMap.mpr ⟨X.env, List.mem_cons_self, by rw [hf, q]⟩)
    have nF : a ∉ X.fs := by
      intro hm
      obtain ⟨e, he, q⟩ := List.mem_filterMap.mp hm
      exact nofr (List.mem_filterMap.mpr ⟨e, List.mem_cons_of_mem _ he, q⟩)
    have S3 := J3.suite he3 hd3 na nL nF
    refine wpAny_handleBy_cons (codeAny_handlers_test ?_) (by intro q; cases q)
    have LT : PySem.W.Looks (model X.prog X.w) h3 (typeOf (.ref a)) k := fun A Q E s kk q => wpAny_typeOf_ref (kk _ _ he3) (by rw [hz3.1]; exact q)
    have LM := PySem.W.exm_one (M := model X.prog X.w) (J3.kIn) LT hb1
    have test : ∀ {Q E : Value → Shared → Prop}, Q c { z with heap := h3 } → wpAny (model X.prog X.w) (X.A.mark (some (.ref a))) (eval (.Name x np) X.env) Q E { z with heap := h3 } := by
      intro Q E q
      obtain ⟨hg, hdb, hm | ⟨hm, hv, hnn⟩⟩ := hc
      · exact ld_glob (X := X.suite a ((a, ob3) :: (X.pn ++ pins))) S3 hg hm q hdb
      · exact ld_blt (X := X.suite a ((a, ob3) :: (X.pn ++ pins))) S3 hg hm hv q hnn hdb
    refine test (LM.here ?_)
    cases b with
    | true =>
      refine codeAny_handlers_suite_as ?_
      refine HandSPX.lands_againZ fl3 fun h4 fl4 up4 => ?_
      have J4 : Inv X pins σ' J { z with heap := h4 } := J1.landed nb fl4.1 ((up.trans up3).trans up4) os ag
      obtain ⟨ob4, vs4, he4, hz4, hd4⟩ := fl4.there
      have S4 := J4.suite he4 hd4 na nL nF
      refine store_ok (X := X.suite a ((a, ob4) :: (X.pn ++ pins))) (v := .ref a) S4 hN hi hloc rfl (fun s5 S5 => ?_) (.inr hln)
      refine wpAny_mono ((hsu a ob4 k t (X.pn ++ pins) hz4).run [] s5 _ J _ S5 (hyes rfl a na)) (fun f s6 hsp => ?_) (fun _ _ q => False.elim q)
      have end_ : ∀ {σ6 : L2.St} {H6 : Hp} {Q : Shared → Prop}, Inv (X.suite a ((a, ob4) :: (X.pn ++ pins))) [] σ6 H6 s6 → (∀ s7, Inv X pins (σ6.set i none) H6 s7 → Q s7) →
          wpAny (model X.prog X.w) X.A (do bindName X.env n .none; unbindBehindTheSuite X.env n pos') (fun _ s7 => Q s7) X.xe s6 := by
        intro σ6 H6 Q S6 hq
        exact gone_ok (S6.unsuite ok) hN hi hln hq
      cases f with
      | next => obtain ⟨σ6, H6, S6, q6⟩ := hsp; exact end_ S6 fun s7 J7 => ⟨_, _, J7, q6⟩
      | brk => obtain ⟨σ6, H6, S6, q6⟩ := hsp; exact end_ S6 fun s7 J7 => ⟨_, _, J7, q6⟩
      | cont => obtain ⟨σ6, H6, S6, q6⟩ := hsp; exact end_ S6 fun s7 J7 => ⟨_, _, J7, q6⟩
      | ret u => obtain ⟨v6, σ6, H6, S6, r6, q6⟩ := hsp; exact end_ S6 fun s7 J7 => ⟨_, _, _, J7, r6, q6⟩
    | false =>
      show wpAny _ X.A (handleBy (.ref a) X.env []) _ _ _
      refine wpAny_handleBy_nil ?_
      obtain ⟨k1, k2, k3, ob, fl, T, oT, tf, he, hz, hd, h1, hr⟩ := id fl3
      unfold PySem.passOn
      refine wpAny_bind (wpAny_field he hd h1 ?_)
      rw [if_neg (by simp : ¬ ((Value.ref T == Value.none) = true))]
      have fin : wpAny (model X.prog X.w) X.A (setFlight (.ref a) X.env.frame) (fun _ s4 => wpAny (model X.prog X.w) X.A (throw (.ref a) : Sem Flow) (SP X pins D) X.xe s4) X.xe { z with heap := h3 } := by
        rw [hf]
        refine HandSPX.setFlight_upZ fl3 fun h4 hh4 up4 => wpAny_throw (tk _ _ ?_)
        exact ⟨a, G, y, pins, σ', J, k, t, rfl, J1, nb, (up.trans up3).trans up4, SkyQ.held (by rw [hs]; exact hh4), na, os, ag, hno rfl⟩
      first
        | exact wpAny_bind fin
        | exact wpAny_bind (wpAny_pure (wpAny_bind fin))
  refine wpAny_mono ((hb (wAs X.K c i ts Wout D) (X.pn ++ pins) _ (fun u z q => caught u z q) PassesOwn.looking).run [] s σ H D (I.toTry _) h) (fun f s1 hsp => ?_) (fun e s1 he => he)
  cases f with
  | next => obtain ⟨σ', J, K1, q⟩ := hsp; exact wpAny_execs_nil ⟨σ', J, K1.ofTry ok, q⟩
  | brk => obtain ⟨σ', J, K1, q⟩ := hsp; exact ⟨σ', J, K1.ofTry ok, q⟩
  | cont => obtain ⟨σ', J, K1, q⟩ := hsp; exact ⟨σ', J, K1.ofTry ok, q⟩
  | ret u => obtain ⟨v, σ', J, K1, r, q⟩ := hsp; exact ⟨v, σ', J, K1.ofTry ok, r, q⟩
end
end MX

set_option linter.all false
set_option maxRecDepth 100000
set_option maxHeartbeats 2000000
/-! MiniPy, 4: operators by values. -/
namespace MP
open PySem PySem.Spec PyProof.Rows L2

structure Ad where
  cls : Nat → Addr
  exc : Nat → Addr
  fn : Nat → Addr
  fd : Nat → FuncData

section
variable (K : KF) (cls : Nat → Addr)
/-- what is wanted of an outcome -/
def Out {α : Type} (r : R α) (ρ : List Addr) (H : Hp) (Q : α → Sto → List Addr → Hp → Prop) (X : Nat → D → Sto → List Addr → Hp → Prop) : Prop :=
  match r with
  | .ok a S => ∀ ρ' H', Ext ρ H ρ' H' → SR K cls ρ' S H' → Q a S ρ' H'
  | .exc c m S => ∀ ρ' H', Ext ρ H ρ' H' → SR K cls ρ' S H' → X c m S ρ' H'
  | .bad => False
end
section
variable {K : KF} {cls : Nat → Addr} {ρ ρ' : List Addr} {H H' : Hp} {S : Sto}
theorem Out.mono {α : Type} {r : R α} {Q Q' : α → Sto → List Addr → Hp → Prop} {X X' : Nat → D → Sto → List Addr → Hp → Prop} (h : Out K cls r ρ H Q X)
    (hQ : ∀ a S ρ' H', Ext ρ H ρ' H' → SR K cls ρ' S H' → Q a S ρ' H' → Q' a S ρ' H') (hX : ∀ c m S ρ' H', Ext ρ H ρ' H' → SR K cls ρ' S H' → X c m S ρ' H' → X' c m S ρ' H') : Out K cls r ρ H Q' X' := by
  cases r with
  | ok a S => exact fun ρ' H' x s => hQ a S ρ' H' x s (h ρ' H' x s)
  | exc c m S => exact fun ρ' H' x s => hX c m S ρ' H' x s (h ρ' H' x s)
  | bad => exact h
theorem Out.at_ {α : Type} {r : R α} {Q : α → Sto → List Addr → Hp → Prop} {X : Nat → D → Sto → List Addr → Hp → Prop} (h : Out K cls r ρ H Q X) (x : Ext ρ H ρ' H') : Out K cls r ρ' H' Q X := by
  cases r with
  | ok a S => exact fun ρ2 H2 y s => h ρ2 H2 (x.trans y) s
  | exc c m S => exact fun ρ2 H2 y s => h ρ2 H2 (x.trans y) s
  | bad => exact h
theorem Out.bind {α β : Type} {r : R α} {f : α → Sto → R β} {Q : β → Sto → List Addr → Hp → Prop} {X : Nat → D → Sto → List Addr → Hp → Prop} (h : Out K cls (r.bind f) ρ H Q X) :
    Out K cls r ρ H (fun a S ρ' H' => Out K cls (f a S) ρ' H' Q X) X := by
  cases r with
  | ok a S => exact fun ρ' H' x s => Out.at_ (show Out K cls (f a S) ρ H Q X from h) x
  | exc c m S => exact h
  | bad => exact h

/-! ### data as the library's -/
mutual
theorem Rep.dp : ∀ {d : D} {v : V} {p : PyData}, Rep K ρ H d v → toP d = some p → Dp K.F H v p
  | .non, _, _, h, e => by unfold Rep at h; subst h; simp [toP] at e; subst e; exact .non
  | .bl b, _, _, h, e => by unfold Rep at h; subst h; simp [toP] at e; subst e; exact .bl b
  | .int i, _, _, h, e => by unfold Rep at h; subst h; simp [toP] at e; subst e; exact .int i
  | .str x, _, _, h, e => by unfold Rep at h; subst h; simp [toP] at e; subst e; exact .str x
  | .tup ds, _, _, h, e => by
    unfold Rep at h
    obtain ⟨a, vs, rfl, q, r⟩ := h
    simp only [toP, Option.map_eq_some_iff] at e
    obtain ⟨ps, e1, rfl⟩ := e
    exact .tup q (Reps.dp r e1)
  | .lst ds, _, _, h, e => by
    unfold Rep at h
    obtain ⟨a, vs, rfl, q, _, r⟩ := h
    simp only [toP, Option.map_eq_some_iff] at e
    obtain ⟨ps, e1, rfl⟩ := e
    exact .lst (SqL.of q) (Reps.dp r e1)
  | .scr _, _, _, _, e => by simp [toP] at e
  | .loc _, _, _, _, e => by simp [toP] at e
  | .dct _, _, _, _, e => by simp [toP] at e
theorem Reps.dp : ∀ {ds : List D} {vs : List V} {ps : List PyData}, Reps K ρ H ds vs → toPs ds = some ps → DpAll K.F H vs ps
  | [], _, _, h, e => by unfold Reps at h; subst h; simp [toPs] at e; subst e; exact .nil
  | d :: ds, _, _, h, e => by
    unfold Reps at h
    obtain ⟨v, r, rfl, h1, h2⟩ := h
    unfold toPs at e
    cases q1 : toP d with
    | none => rw [q1] at e; simp at e
    | some p =>
      cases q2 : toPs ds with
      | none => rw [q1, q2] at e; simp at e
      | some ps =>
        rw [q1, q2] at e
        simp at e
        subst e
        exact .cons (Rep.dp h1 q1) (Reps.dp h2 q2)
end
theorem SR.asL (s : SR K cls ρ S H) {d : D} {v : V} {xs : List D} (r : Rep K ρ H d v) (e : asL S d = some xs) : ∃ a vs, v = .ref a ∧ H a = some (.lst vs) ∧ Reps K ρ H xs vs := by
  cases d with
  | lst ds =>
    unfold Rep at r
    obtain ⟨a, vs, rfl, q, _, r⟩ := r
    simp [MP.asL] at e
    subst e
    exact ⟨a, vs, rfl, q, r⟩
  | loc n =>
    unfold Rep at r
    obtain ⟨a, rfl, q⟩ := r
    unfold MP.asL at e
    cases k : S[n]? with
    | none => simp [k] at e
    | some o =>
      cases o with
      | ins c fs => simp [k] at e
      | lst ds =>
        simp [k] at e
        subst e
        obtain ⟨vs, z, r⟩ := s.lst n ds a k q
        exact ⟨a, vs, rfl, z, r⟩
  | _ => simp [MP.asL] at e
theorem SR.asQ (s : SR K cls ρ S H) {d : D} {v : V} {xs : List D} (r : Rep K ρ H d v) (e : asQ S d = some xs) : ∃ a vs, v = .ref a ∧ (SqL K.F H a vs ∨ SqT K.F H a vs) ∧ Reps K ρ H xs vs := by
  cases d with
  | tup ds =>
    unfold Rep at r
    obtain ⟨a, vs, rfl, q, r⟩ := r
    simp [MP.asQ] at e
    subst e
    exact ⟨a, vs, rfl, .inr q, r⟩
  | lst ds => obtain ⟨a, vs, e1, q, r⟩ := s.asL r (by simpa [MP.asQ] using e); exact ⟨a, vs, e1, .inl (SqL.of q), r⟩
  | loc n => obtain ⟨a, vs, e1, q, r⟩ := s.asL r (by simpa [MP.asQ] using e); exact ⟨a, vs, e1, .inl (SqL.of q), r⟩
  | _ => simp [MP.asQ, MP.asL] at e
theorem SR.toPS (s : SR K cls ρ S H) {d : D} {v : V} {p : PyData} (r : Rep K ρ H d v) (e : toPS S d = some p) : Dp K.F H v p := by
  cases d with
  | loc n =>
    unfold MP.toPS at e
    cases k : S[n]? with
    | none => simp [k] at e
    | some o =>
      cases o with
      | ins c fs => simp [k] at e
      | lst ds =>
        simp only [k, Option.map_eq_some_iff] at e
        obtain ⟨ps, e1, rfl⟩ := e
        obtain ⟨a, vs, rfl, q, r⟩ := s.asL (xs := ds) r (by simp [MP.asL, k])
        exact .lst (SqL.of q) (Reps.dp r e1)
  | _ => exact Rep.dp r (by simpa [MP.toPS] using e)
theorem scV_of {d : D} {v v' : V} (r : Rep K ρ H d v) (e : scV d = some v') : v = v' := by
  cases d <;> simp [scV] at e <;> (unfold Rep at r; rw [r, e])
theorem scVs_of : ∀ {ds : List D} {vs vs' : List V}, Reps K ρ H ds vs → scVs ds = some vs' → vs = vs'
  | [], _, _, h, e => by unfold Reps at h; simp [scVs] at e; rw [h, ← e]
  | d :: ds, _, _, h, e => by
    unfold Reps at h
    obtain ⟨v, r, rfl, h1, h2⟩ := h
    unfold scVs at e
    cases q1 : scV d with
    | none => simp [q1] at e
    | some p =>
      cases q2 : scVs ds with
      | none => simp [q1, q2] at e
      | some ps => simp [q1, q2] at e; rw [← e, scV_of h1 q1, scVs_of h2 q2]
theorem scV_flat {d : D} {v : V} (e : scV d = some v) : flatV v = true := by
  cases d <;> simp [scV] at e <;> subst e <;> rfl
theorem scVs_flat : ∀ {ds : List D} {vs : List V}, scVs ds = some vs → vs.all flatV = true
  | [], _, e => by simp [scVs] at e; subst e; rfl
  | d :: ds, _, e => by
    unfold scVs at e
    cases q1 : scV d with
    | none => simp [q1] at e
    | some p =>
      cases q2 : scVs ds with
      | none => simp [q1, q2] at e
      | some ps => simp [q1, q2] at e; rw [← e, List.all_cons, scV_flat q1, scVs_flat q2]; rfl
theorem asBls_of : ∀ {ds : List D} {vs : List V} {bs : List Bool}, Reps K ρ H ds vs → asBls ds = some bs → vs = bs.map V.bl
  | [], _, _, h, e => by unfold Reps at h; simp [asBls] at e; subst e; rw [h]; rfl
  | d :: ds, _, _, h, e => by
    unfold Reps at h
    obtain ⟨v, r, rfl, h1, h2⟩ := h
    cases d <;> simp [asBls] at e
    obtain ⟨l, e1, rfl⟩ := e
    unfold Rep at h1
    rw [h1, asBls_of h2 e1]; rfl
theorem asInts_of : ∀ {ds : List D} {vs : List V} {bs : List Int}, Reps K ρ H ds vs → asInts ds = some bs → vs = bs.map V.int
  | [], _, _, h, e => by unfold Reps at h; simp [asInts] at e; subst e; rw [h]; rfl
  | d :: ds, _, _, h, e => by
    unfold Reps at h
    obtain ⟨v, r, rfl, h1, h2⟩ := h
    cases d <;> simp [asInts] at e
    obtain ⟨l, e1, rfl⟩ := e
    unfold Rep at h1
    rw [h1, asInts_of h2 e1]; rfl
theorem asStrs_of : ∀ {ds : List D} {vs : List V} {bs : List Str}, Reps K ρ H ds vs → asStrs ds = some bs → vs = bs.map V.str
  | [], _, _, h, e => by unfold Reps at h; simp [asStrs] at e; subst e; rw [h]; rfl
  | d :: ds, _, _, h, e => by
    unfold Reps at h
    obtain ⟨v, r, rfl, h1, h2⟩ := h
    cases d <;> simp [asStrs] at e
    obtain ⟨l, e1, rfl⟩ := e
    unfold Rep at h1
    rw [h1, asStrs_of h2 e1]; rfl

/-! ### new values -/
/-- a new list that is no location -/
theorem newLst (s : SR K cls ρ S H) {p : Addr} {vs : List V} {ds : List D} (h : H p = none) (r : Reps K ρ H ds vs) :
    Ext ρ H ρ (upd H p (.lst vs)) ∧ SR K cls ρ S (upd H p (.lst vs)) ∧ Rep K ρ (upd H p (.lst vs)) (.lst ds) (.ref p) := by
  refine ⟨Ext.fresh h, s.fresh h, ?_⟩
  unfold Rep
  exact ⟨p, vs, rfl, upd_same, s.ni h, Reps.ext (Ext.fresh h) s r⟩
theorem newTup (s : SR K cls ρ S H) {p : Addr} {vs : List V} {ds : List D} (h : H p = none) (r : Reps K ρ H ds vs) :
    Ext ρ H ρ (upd H p (.tup vs)) ∧ SR K cls ρ S (upd H p (.tup vs)) ∧ Rep K ρ (upd H p (.tup vs)) (.tup ds) (.ref p) := by
  refine ⟨Ext.fresh h, s.fresh h, ?_⟩
  unfold Rep
  exact ⟨p, vs, rfl, SqT.of upd_same, Reps.ext (Ext.fresh h) s r⟩
theorem newLoc (s : SR K cls ρ S H) {p : Addr} {vs : List V} {ds : List D} (h : H p = none) (r : Reps K ρ H ds vs) :
    Ext ρ H (ρ ++ [p]) (upd H p (.lst vs)) ∧ SR K cls (ρ ++ [p]) (S ++ [.lst ds]) (upd H p (.lst vs)) ∧ Rep K (ρ ++ [p]) (upd H p (.lst vs)) (.loc S.length) (.ref p) := by
  refine ⟨Ext.grow s h, s.grow h r, ?_⟩
  unfold Rep
  exact ⟨p, rfl, by rw [← s.len]; simp⟩
theorem rep_int {i : Int} : Rep K ρ H (.int i) (.int i) := by unfold Rep; rfl
theorem rep_bl {i : Bool} : Rep K ρ H (.bl i) (.bl i) := by unfold Rep; rfl
theorem rep_str {i : Str} : Rep K ρ H (.str i) (.str i) := by unfold Rep; rfl
theorem rep_non : Rep K ρ H .non .non := by unfold Rep; rfl
end

/-- a value's reading by a pure function of the store -/
def rV (K : KF) (cls : Nat → Addr) (f : Sto → List D → Option D) (xs : List V) (H : Hp) (Q : VK) : Prop :=
  ∃ ρ S ds d, SR K cls ρ S H ∧ Reps K ρ H ds xs ∧ f S ds = some d ∧ ∀ ρ' H' v, Ext ρ H ρ' H' → SR K cls ρ' S H' → Rep K ρ' H' d v → Q v H'
def f2 (f : Sto → D → D → Option D) : Sto → List D → Option D := fun S ds => match ds with
  | [x, y] => f S x y
  | _ => none
theorem reps1 {K : KF} {ρ : List Addr} {H : Hp} {d : D} {xs : List V} (h : Reps K ρ H [d] xs) : ∃ x, xs = [x] ∧ Rep K ρ H d x := by
  unfold Reps at h
  obtain ⟨v, r, rfl, h1, h2⟩ := h
  unfold Reps at h2
  subst h2
  exact ⟨v, rfl, h1⟩
theorem reps2 {K : KF} {ρ : List Addr} {H : Hp} {d e : D} {xs : List V} (h : Reps K ρ H [d, e] xs) : ∃ x y, xs = [x, y] ∧ Rep K ρ H d x ∧ Rep K ρ H e y := by
  unfold Reps at h
  obtain ⟨v, r, rfl, h1, h2⟩ := h
  obtain ⟨y, rfl, h3⟩ := reps1 h2
  exact ⟨v, y, rfl, h1, h3⟩
end MP

set_option linter.all false
set_option maxRecDepth 100000
set_option maxHeartbeats 4000000
/-! MiniPy, 5: the operators' rules. -/
namespace MP
open PySem PySem.Spec PyProof.Rows L2
def bop : BO → Operator
  | .add => .Add | .sub => .Sub | .mul => .Mult | .fdiv => .FloorDiv | .mod => .Mod | .pow => .Pow
theorem bop_of {o : BO} {op : Operator} (h : boB o op = true) : op = bop o := by
  cases o <;> cases op <;> first | rfl | (simp [boB] at h)
section
variable {X : Cx} {kd : KD} {cls : Nat → Addr} {K : KF} {ρ : List Addr} {H : Hp} {S : Sto}
theorem rep_int_of {i : Int} {v : V} (h : Rep K ρ H (.int i) v) : v = .int i := by unfold Rep at h; exact h
theorem rep_str_of {i : Str} {v : V} (h : Rep K ρ H (.str i) v) : v = .str i := by unfold Rep at h; exact h
theorem rep_bl_of {i : Bool} {v : V} (h : Rep K ρ H (.bl i) v) : v = .bl i := by unfold Rep at h; exact h
theorem rep_non_of {v : V} (h : Rep K ρ H .non v) : v = .non := by unfold Rep at h; exact h
theorem rep_tup_of {ds : List D} {v : V} (h : Rep K ρ H (.tup ds) v) : ∃ a vs, v = .ref a ∧ SqT K.F H a vs ∧ Reps K ρ H ds vs := by unfold Rep at h; exact h
theorem rep_tup {ds : List D} {a : Addr} {vs : List V} (h : SqT K.F H a vs) (r : Reps K ρ H ds vs) : Rep K ρ H (.tup ds) (.ref a) := by unfold Rep; exact ⟨a, vs, rfl, h, r⟩
/-- what two values come to, by a function of them -/
def r2 (K : KF) (cls : Nat → Addr) (f : Sto → D → D → Option D) : R2 := fun x y H Q =>
  ∃ ρ S a b d, SR K cls ρ S H ∧ Rep K ρ H a x ∧ Rep K ρ H b y ∧ f S a b = some d ∧ ∀ ρ' H' v, Ext ρ H ρ' H' → SR K cls ρ' S H' → Rep K ρ' H' d v → Q v H'
theorem lists_add (x y : D) (d : D) (h : evBin .add S x y = some d) :
    (∃ i j, x = .int i ∧ y = .int j ∧ d = .int (i + j)) ∨ (∃ i j, x = .str i ∧ y = .str j ∧ i.length + j.length ≤ sizeLine ∧ d = .str (i ++ j)) ∨
    (∃ a b, x = .tup a ∧ y = .tup b ∧ a.length + b.length ≤ sizeLine ∧ d = .tup (a ++ b)) ∨ ∃ p q, asL S x = some p ∧ asL S y = some q ∧ p.length + q.length ≤ sizeLine ∧ d = .lst (p ++ q) := by
  unfold evBin at h
  dsimp only at h
  split at h
  · cases h; exact .inl ⟨_, _, rfl, rfl, rfl⟩
  · split at h
    · cases h; exact .inr (.inl ⟨_, _, rfl, rfl, by assumption, rfl⟩)
    · cases h
  · split at h
    · cases h; exact .inr (.inr (.inl ⟨_, _, rfl, rfl, by assumption, rfl⟩))
    · cases h
  · split at h
    · split at h
      · cases h; exact .inr (.inr (.inr ⟨_, _, by assumption, by assumption, by assumption, rfl⟩))
      · cases h
    · cases h
theorem op_badd : OpR X (binaryOp .Add) (r2 ⟨X.K, kd⟩ cls (evBin .add)) := by
  intro pins s σ H x y v u Q I rx ry ⟨ρ, S, a, b, d, sr, ra, rb, e, q⟩
  rcases lists_add a b d e with ⟨i, j, rfl, rfl, rfl⟩ | ⟨i, j, rfl, rfl, hz, rfl⟩ | ⟨p, r, rfl, rfl, hz, rfl⟩ | ⟨p, r, e1, e2, hz, rfl⟩
  · exact op_add pins s σ H x y v u Q I rx ry ⟨i, j, rep_int_of ra, rep_int_of rb, q _ _ _ Ext.refl sr rep_int⟩
  · exact op_add_str pins s σ H x y v u Q I rx ry ⟨i, j, rep_str_of ra, rep_str_of rb, hz, q _ _ _ Ext.refl sr rep_str⟩
  · obtain ⟨a1, vs, rfl, h1, r1⟩ := rep_tup_of ra
    obtain ⟨a2, us, rfl, h2, r2⟩ := rep_tup_of rb
    refine op_catA pins s σ H _ _ v u Q I rx ry ⟨a1, a2, vs, us, rfl, rfl, h1, h2, by rw [Reps.len r1, Reps.len r2]; exact hz, fun e => ?_, fun _ e => ?_, fun _ _ p hp => ?_⟩
    · subst e
      have e0 := Reps.len r1
      have : p = [] := List.length_eq_zero_iff.mp e0.symm
      subst this
      exact q _ _ _ Ext.refl sr (rep_tup h2 r2)
    · subst e
      have e0 := Reps.len r2
      have : r = [] := List.length_eq_zero_iff.mp e0.symm
      subst this
      exact q _ _ _ Ext.refl sr (rep_tup h1 (by rw [List.append_nil]; exact r1))
    · obtain ⟨x1, s1, k1⟩ := newTup sr hp (Reps.append r1 r2)
      exact q _ _ _ x1 s1 k1
  · obtain ⟨a1, vs, rfl, h1, r1⟩ := sr.asL ra e1
    obtain ⟨a2, us, rfl, h2, r2⟩ := sr.asL rb e2
    refine op_cat pins s σ H _ _ v u Q I rx ry ⟨a1, a2, vs, us, rfl, rfl, h1, h2, by rw [Reps.len r1, Reps.len r2]; exact hz, fun p hp => ?_⟩
    obtain ⟨x1, s1, k1⟩ := newLst sr hp (Reps.append r1 r2)
    exact q _ _ _ x1 s1 k1
theorem op_bsub : OpR X (binaryOp .Sub) (r2 ⟨X.K, kd⟩ cls (evBin .sub)) := by
  intro pins s σ H x y v u Q I rx ry ⟨ρ, S, a, b, d, sr, ra, rb, e, q⟩
  cases a <;> cases b <;> simp [evBin] at e
  subst e
  exact op_sub pins s σ H x y v u Q I rx ry ⟨_, _, rep_int_of ra, rep_int_of rb, q _ _ _ Ext.refl sr rep_int⟩
theorem op_bmod : OpR X (binaryOp .Mod) (r2 ⟨X.K, kd⟩ cls (evBin .mod)) := by
  intro pins s σ H x y v u Q I rx ry ⟨ρ, S, a, b, d, sr, ra, rb, e, q⟩
  cases a <;> cases b <;> simp [evBin] at e
  obtain ⟨h, rfl⟩ := e
  exact op_modN pins s σ H x y v u Q I rx ry ⟨_, _, rep_int_of ra, rep_int_of rb, h, q _ _ _ Ext.refl sr rep_int⟩
theorem op_bpow : OpR X (binaryOp .Pow) (r2 ⟨X.K, kd⟩ cls (evBin .pow)) := by
  intro pins s σ H x y v u Q I rx ry ⟨ρ, S, a, b, d, sr, ra, rb, e, q⟩
  cases a <;> cases b <;> simp [evBin] at e
  obtain ⟨h, rfl⟩ := e
  exact op_pow pins s σ H x y v u Q I rx ry ⟨_, _, rep_int_of ra, rep_int_of rb, h, q _ _ _ Ext.refl sr rep_int⟩
theorem fdiv_cases (x y : D) (d : D) (h : evBin .fdiv S x y = some d) : ∃ i j, x = .int i ∧ y = .int j ∧ ((0 < j ∧ j.natAbs.log2 < 8999 ∧ d = .int (i / j)) ∨ (j ≠ 0 ∧ j.natAbs < 1073741824 ∧ d = .int (i.fdiv j))) := by
  unfold evBin at h
  dsimp only at h
  split at h
  · split at h
    · cases h; exact ⟨_, _, rfl, rfl, .inl ⟨by omega, by omega, rfl⟩⟩
    · split at h
      · rename_i h2; cases h; exact ⟨_, _, rfl, rfl, .inr ⟨h2.1, h2.2, rfl⟩⟩
      · cases h
  · cases h
theorem op_bfdiv : OpR X (binaryOp .FloorDiv) (r2 ⟨X.K, kd⟩ cls (evBin .fdiv)) := by
  intro pins s σ H x y v u Q I rx ry ⟨ρ, S, a, b, d, sr, ra, rb, e, q⟩
  obtain ⟨i, j, rfl, rfl, ⟨h1, h2, rfl⟩ | ⟨h1, h2, rfl⟩⟩ := fdiv_cases a b d e
  · exact op_fdivW pins s σ H x y v u Q I rx ry ⟨_, _, rep_int_of ra, rep_int_of rb, ⟨h1, by omega⟩, q _ _ _ Ext.refl sr rep_int⟩
  · exact op_fdivN pins s σ H x y v u Q I rx ry ⟨_, _, rep_int_of ra, rep_int_of rb, ⟨h1, h2⟩, q _ _ _ Ext.refl sr rep_int⟩
theorem mul_cases (x y : D) (d : D) (h : evBin .mul S x y = some d) :
    (∃ i j, x = .int i ∧ y = .int j ∧ i.natAbs.log2 + j.natAbs.log2 ≤ 999000 ∧ d = .int (i * j)) ∨
    (∃ i j, x = .str i ∧ y = .int j ∧ (2 ≤ j ∧ j ≤ 100000 ∧ 0 < i.length ∧ i.length * j.toNat ≤ 16000000) ∧ d = .str (strRep i j.toNat)) ∨
    ∃ p j, asL S x = some p ∧ y = .int j ∧ (0 ≤ j ∧ j < 2 ^ 63 ∧ p.length * j.toNat ≤ sizeLine) ∧ d = .lst (List.replicate j.toNat p).flatten := by
  unfold evBin at h
  dsimp only at h
  split at h
  · split at h
    · cases h; exact .inl ⟨_, _, rfl, rfl, by assumption, rfl⟩
    · cases h
  · split at h
    · cases h; exact .inr (.inl ⟨_, _, rfl, rfl, by assumption, rfl⟩)
    · cases h
  · split at h
    · split at h
      · cases h; exact .inr (.inr ⟨_, _, by assumption, rfl, by assumption, rfl⟩)
      · cases h
    · cases h
  · cases h
theorem fold_size (a : Array Nat) : ∀ (k : Nat) (acc : Array Nat), ((List.replicate k a).foldl (· ++ ·) acc).size = acc.size + k * a.size
  | 0, acc => by simp
  | k + 1, acc => by
    rw [List.replicate_succ, List.foldl_cons, fold_size a k]
    rw [Array.size_append, Nat.succ_mul]; omega
theorem strRep_len (x : Str) (k : Nat) : (strRep x k).length = k * x.length := by
  have := fold_size x.cps k #[]
  simpa [strRep, Str.length] using this
theorem op_bmul : OpR X (binaryOp .Mult) (r2 ⟨X.K, kd⟩ cls (evBin .mul)) := by
  intro pins s σ H x y v u Q I rx ry ⟨ρ, S, a, b, d, sr, ra, rb, e, q⟩
  rcases mul_cases a b d e with ⟨i, j, rfl, rfl, h, rfl⟩ | ⟨i, j, rfl, rfl, ⟨h1, h2, h3, h4⟩, rfl⟩ | ⟨p, j, e1, rfl, ⟨h1, h2, h3⟩, rfl⟩
  · exact op_mulW pins s σ H x y v u Q I rx ry ⟨i, j, rep_int_of ra, rep_int_of rb, (by show _ < _; omega), q _ _ _ Ext.refl sr rep_int⟩
  · have e1 := rep_str_of ra
    have e2 := rep_int_of rb
    subst e1 e2
    obtain ⟨t, rfl⟩ := rx
    obtain ⟨t', rfl⟩ := ry
    have n1 : ¬ j < 1 := by omega
    have n2 : (j == 1 || i.length == 0) = false := by
      have a1 : (j == 1) = false := by simp; omega
      have a2 : (i.length == 0) = false := by simp; omega
      rw [a1, a2]; rfl
    refine PySem.P.mul_str ?_ (fun _ _ => ?_) (fun _ _ => ?_) ?_
    · rw [decide_eq_false (by omega), decide_eq_false (by omega)]; rfl
    · have q1 : j ≤ 100000 := h2
      have q2 : (100000 : Int) * 16000000 ≤ 2 ^ 63 - 1 := by decide
      have l1 : (i.length : Int) ≤ 16000000 := by
        have : i.length * 1 ≤ i.length * j.toNat := Nat.mul_le_mul_left _ (by omega)
        omega
      have : (i.length : Int) ≤ (2 ^ 63 - 1) / j := by
        rw [Int.le_ediv_iff_mul_le (by omega)]
        have m1 : (i.length : Int) * j ≤ 16000000 * 100000 := Int.mul_le_mul l1 h2 (by omega) (by omega)
        omega
      omega
    · unfold PySem.Builtin.Str.tooLong
      have : i.length * j.toNat ≤ sizeLine := by rw [sizeLine_eq]; omega
      first
        | simpa using this
        | exact decide_eq_false (by omega)
    · rw [if_neg n1, n2]
      show Made.post (Made.str _) _ _
      refine ⟨?_, .str (strRep i j.toNat), H, I.tok _, ⟨_, rfl⟩, q _ _ _ Ext.refl sr rep_str⟩
      have := strRep_len i j.toNat
      show (strRep i j.toNat).length ≤ _
      rw [this, Nat.mul_comm, sizeLine_eq]; omega
  · obtain ⟨a1, vs, rfl, k1, r1⟩ := sr.asL ra e1
    have e2 := rep_int_of rb
    subst e2
    refine op_rep pins s σ H _ _ v u Q I rx ry ⟨a1, j, vs, rfl, rfl, k1, by omega, h2, by rw [Reps.len r1]; exact h3, fun p hp => ?_⟩
    obtain ⟨x1, s1, k1⟩ := newLst sr hp (Reps.flat j.toNat r1)
    exact q _ _ _ x1 s1 k1
theorem op_b (o : BO) : OpR X (binaryOp (bop o)) (r2 ⟨X.K, kd⟩ cls (evBin o)) := by
  cases o
  · exact op_badd
  · exact op_bsub
  · exact op_bmul
  · exact op_bfdiv
  · exact op_bmod
  · exact op_bpow
end
end MP

set_option linter.all false
set_option maxRecDepth 100000
set_option maxHeartbeats 4000000
/-! MiniPy, 6: comparisons, subscripts, slices. -/
namespace MP
open PySem PySem.Spec PyProof.Rows L2

/-- the entries of a written dict of texts -/
def EsOk : List DictEntry → List (Str × Str) → Prop
  | [], [] => True
  | e :: es, p :: ps => (∃ t, e.key = .str p.1 t) ∧ (∃ t, e.val = .str p.2 t) ∧ EsOk es ps
  | _, _ => False
/-- a written dict of texts -/
def KDt (K : PySem.W.Frag) (w : World) (a : Addr) (kvs : List (Str × Str)) : Prop :=
  ∃ es n, L2.KDict K w a es n ∧ EsOk es.toList kvs
theorem esOk_find (z : Str) : ∀ {es : List DictEntry} {kvs : List (Str × Str)}, EsOk es kvs →
    match kvs.lookup z with
    | some v => ∃ e t, es.find? (·.key.isStr z) = some e ∧ e.val = .str v t
    | none => es.find? (·.key.isStr z) = none ∧ es.any (·.refKey) = false
  | [], [], _ => by simp
  | e :: es, (k, v) :: kvs, ⟨⟨t, h1⟩, ⟨t2, h2⟩, h3⟩ => by
    have ih := esOk_find z h3
    rw [List.lookup_cons]
    have hk : e.key.isStr z = (k == z) := by rw [h1]; rfl
    have hr : e.refKey = false := by unfold DictEntry.refKey; rw [h1]
    cases hz : z == k with
    | true =>
      have : k == z := by simp at hz ⊢; exact hz.symm
      exact ⟨e, t2, by rw [List.find?_cons, hk, this], h2⟩
    | false =>
      have : (k == z) = false := by
        cases q : k == z with
        | false => rfl
        | true => simp at q hz; exact absurd q.symm hz
      simp only
      cases q : kvs.lookup z with
      | some v' =>
        rw [q] at ih
        obtain ⟨e', t', h4, h5⟩ := ih
        exact ⟨e', t', by rw [List.find?_cons, hk, this]; exact h4, h5⟩
      | none =>
        rw [q] at ih
        exact ⟨by rw [List.find?_cons, hk, this]; exact ih.1, by rw [List.any_cons, hr, ih.2]; rfl⟩
theorem kdt_ns {K : PySem.W.Frag} {w : World} {a : Addr} {kvs : List (Str × Str)} {es : Array DictEntry} {n : Nat} (D : L2.KDict K w a es n) (h : EsOk es.toList kvs) (z : Str) :
    match kvs.lookup z with
    | some v => ∃ t, PySem.W.nsIn K a z = some (some (.str v t))
    | none => PySem.W.nsIn K a z = some none := by
  have f := esOk_find z h
  have e : PySem.W.nsIn K a z = (match es.toList.find? (·.key.isStr z) with
      | some e => some (some e.val)
      | none => if es.toList.any (·.refKey) then none else some none) := by
    unfold PySem.W.nsIn
    rw [D.at_]
    rfl
  cases q : kvs.lookup z with
  | some v =>
    rw [q] at f
    obtain ⟨e', t, h1, h2⟩ := f
    exact ⟨t, by rw [e, h1]; dsimp only; rw [h2]⟩
  | none =>
    rw [q] at f
    rw [e, f.1, f.2]
    rfl
theorem lookup_any (z : Str) : ∀ kvs : List (Str × Str), (kvs.any fun p => p.1 == z) = (kvs.lookup z).isSome
  | [] => rfl
  | (k, v) :: kvs => by
    rw [List.any_cons, List.lookup_cons, lookup_any z kvs]
    cases q : z == k with
    | true => have : (k == z) = true := by simp at q ⊢; exact q.symm
              simp [this]
    | false => have : (k == z) = false := by
                 cases r : k == z with
                 | false => rfl
                 | true => simp at r q; exact absurd r.symm q
               simp [this]
theorem valV_dct (z : Str) : ∀ kvs : List (Str × Str), valV (kvs.map fun p => ((Sum.inr p.1 : Key), V.str p.2)) (Sum.inr z) = (kvs.lookup z).map V.str
  | [] => rfl
  | (k, v) :: kvs => by
    rw [List.map_cons, List.lookup_cons]
    cases q : z == k with
    | true =>
      have : k = z := by simp at q; exact q.symm
      rw [valV_pos (show (Sum.inr k : Key) = Sum.inr z by rw [this])]
      rfl
    | false =>
      have : ¬ (Sum.inr k : Key) = Sum.inr z := by
        intro h; have := Sum.inr.inj h; simp at q; exact q this.symm
      rw [valV_neg this, valV_dct z kvs]

def cop : CO → CmpOp
  | .eq => .Eq | .ne => .NotEq | .lt => .Lt | .le => .LtE | .gt => .Gt | .ge => .GtE | .isin => .In | .notin => .NotIn
theorem cop_of {o : CO} {op : CmpOp} (h : coB o op = true) : op = cop o := by
  cases o <;> cases op <;> first | rfl | (simp [coB] at h)
def evCmpD (o : CO) (S : Sto) (x y : D) : Option D := (evCmp o S x y).map D.bl
section
variable {X : Cx} {kd : KD} {cls : Nat → Addr}
theorem bl_some {o : Option Bool} {d : D} (h : o.map D.bl = some d) : ∃ k, o = some k ∧ d = .bl k := by
  cases o with
  | none => simp at h
  | some k => simp at h; exact ⟨k, rfl, h.symm⟩
theorem eq_some {S : Sto} {x y : D} {k : Bool} (h : evEqD S x y = some k) : ∃ p q, toPS S x = some p ∧ toPS S y = some q ∧ SeqAt.shaped p = true ∧ SeqAt.shaped q = true ∧ k = PyData.eqv p q := by
  unfold evEqD at h
  split at h
  · split at h
    · rename_i h1
      simp only [Bool.and_eq_true] at h1
      cases h
      exact ⟨_, _, by assumption, by assumption, h1.1, h1.2, rfl⟩
    · cases h
  · cases h
theorem eq_cases {S : Sto} {x y : D} {k : Bool} (h : evEq S x y = some k) : (∃ a b, x = .str a ∧ y = .str b ∧ k = decide (a = b)) ∨ evEqD S x y = some k := by
  unfold evEq at h
  split at h
  · cases h; exact .inl ⟨_, _, rfl, rfl, rfl⟩
  · exact .inr h
theorem dec_str {a b : Str} : decide (V.str a = V.str b) = decide (a = b) := by
  rw [Bool.eq_iff_iff]
  simp
theorem op_ceq (hu : X.A.units + 65 < cLine) : OpR X (compareOp .Eq) (r2 ⟨X.K, kd⟩ cls (evCmpD .eq)) := by
  intro pins s σ H x y v u Q I rx ry ⟨ρ, S, a, b, d, sr, ra, rb, e, q⟩
  obtain ⟨k, e1, rfl⟩ := bl_some e
  rcases eq_cases e1 with ⟨a, b, rfl, rfl, rfl⟩ | e1
  · refine op_eq pins s σ H x y v u Q I rx ry ⟨by rw [rep_str_of ra, rep_str_of rb]; rfl, ?_⟩
    rw [rep_str_of ra, rep_str_of rb, dec_str]
    exact q _ _ _ Ext.refl sr rep_bl
  obtain ⟨p, r, h1, h2, h3, h4, rfl⟩ := eq_some e1
  exact op_eqD (by omega) pins s σ H x y v u Q I rx ry ⟨p, r, sr.toPS ra h1, sr.toPS rb h2, h3, h4, q _ _ _ Ext.refl sr rep_bl⟩
theorem op_cne (hu : X.A.units + 65 < cLine) : OpR X (compareOp .NotEq) (r2 ⟨X.K, kd⟩ cls (evCmpD .ne)) := by
  intro pins s σ H x y v u Q I rx ry ⟨ρ, S, a, b, d, sr, ra, rb, e, q⟩
  obtain ⟨k, e1, rfl⟩ := bl_some e
  simp only [evCmp, Option.map_eq_some_iff] at e1
  obtain ⟨k2, e1, rfl⟩ := e1
  rcases eq_cases e1 with ⟨a, b, rfl, rfl, rfl⟩ | e1
  · refine op_ne pins s σ H x y v u Q I rx ry ⟨by rw [rep_str_of ra, rep_str_of rb]; rfl, ?_⟩
    rw [rep_str_of ra, rep_str_of rb, dec_str]
    exact q _ _ _ Ext.refl sr rep_bl
  obtain ⟨p, r, h1, h2, h3, h4, rfl⟩ := eq_some e1
  exact op_neD (by omega) pins s σ H x y v u Q I rx ry ⟨p, r, sr.toPS ra h1, sr.toPS rb h2, h3, h4, q _ _ _ Ext.refl sr rep_bl⟩
theorem op_clt : OpR X (compareOp .Lt) (r2 ⟨X.K, kd⟩ cls (evCmpD .lt)) := by
  intro pins s σ H x y v u Q I rx ry ⟨ρ, S, a, b, d, sr, ra, rb, e, q⟩
  obtain ⟨k, e1, rfl⟩ := bl_some e
  cases a <;> cases b <;> simp only [evCmp, reduceCtorEq, Option.some.injEq] at e1
  · subst e1; exact op_lt pins s σ H x y v u Q I rx ry ⟨_, _, rep_int_of ra, rep_int_of rb, q _ _ _ Ext.refl sr rep_bl⟩
  · subst e1; exact op_lt_str pins s σ H x y v u Q I rx ry ⟨_, _, rep_str_of ra, rep_str_of rb, q _ _ _ Ext.refl sr rep_bl⟩
theorem op_cle : OpR X (compareOp .LtE) (r2 ⟨X.K, kd⟩ cls (evCmpD .le)) := by
  intro pins s σ H x y v u Q I rx ry ⟨ρ, S, a, b, d, sr, ra, rb, e, q⟩
  obtain ⟨k, e1, rfl⟩ := bl_some e
  cases a <;> cases b <;> simp only [evCmp, reduceCtorEq, Option.some.injEq] at e1
  · subst e1; exact op_le pins s σ H x y v u Q I rx ry ⟨_, _, rep_int_of ra, rep_int_of rb, q _ _ _ Ext.refl sr rep_bl⟩
  · subst e1; exact op_le_str pins s σ H x y v u Q I rx ry ⟨_, _, rep_str_of ra, rep_str_of rb, q _ _ _ Ext.refl sr rep_bl⟩
theorem op_cgt : OpR X (compareOp .Gt) (r2 ⟨X.K, kd⟩ cls (evCmpD .gt)) := by
  intro pins s σ H x y v u Q I rx ry ⟨ρ, S, a, b, d, sr, ra, rb, e, q⟩
  obtain ⟨k, e1, rfl⟩ := bl_some e
  cases a <;> cases b <;> simp only [evCmp, reduceCtorEq, Option.some.injEq] at e1
  · subst e1; exact op_gt pins s σ H x y v u Q I rx ry ⟨_, _, rep_int_of ra, rep_int_of rb, q _ _ _ Ext.refl sr rep_bl⟩
  · subst e1; exact op_gt_str pins s σ H x y v u Q I rx ry ⟨_, _, rep_str_of ra, rep_str_of rb, q _ _ _ Ext.refl sr rep_bl⟩
theorem op_cge : OpR X (compareOp .GtE) (r2 ⟨X.K, kd⟩ cls (evCmpD .ge)) := by
  intro pins s σ H x y v u Q I rx ry ⟨ρ, S, a, b, d, sr, ra, rb, e, q⟩
  obtain ⟨k, e1, rfl⟩ := bl_some e
  cases a <;> cases b <;> simp only [evCmp, reduceCtorEq, Option.some.injEq] at e1
  · subst e1; exact op_ge pins s σ H x y v u Q I rx ry ⟨_, _, rep_int_of ra, rep_int_of rb, q _ _ _ Ext.refl sr rep_bl⟩
  · subst e1; exact op_ge_str pins s σ H x y v u Q I rx ry ⟨_, _, rep_str_of ra, rep_str_of rb, q _ _ _ Ext.refl sr rep_bl⟩

theorem in_cases {S : Sto} {x y : D} {k : Bool} (h : evIn S x y = some k) :
    (∃ c z, x = .str c ∧ y = .str z ∧ c.cps.size = 1 ∧ k = decide (c.cps.getD 0 0 ∈ z.cps.toList)) ∨
    (∃ c kvs, x = .str c ∧ y = .dct kvs ∧ k = (kvs.any fun p => p.1 == c)) ∨
    (∃ ds v vs, asQ S y = some ds ∧ scV x = some v ∧ scVs ds = some vs ∧ k = inV v vs) ∨
    ∃ ps p, toPS S y = some (.list ps) ∧ toPS S x = some p ∧ SeqAt.shaped (.list ps) = true ∧ SeqAt.shaped p = true ∧ k = ps.any fun z => PyData.eqv z p := by
  unfold evIn at h
  split at h
  · split at h
    · split at h
      · cases h; exact .inl ⟨_, _, rfl, rfl, by assumption, rfl⟩
      · cases h
    · cases h
  · split at h
    · cases h; exact .inr (.inl ⟨_, _, rfl, rfl, rfl⟩)
    · cases h
  · split at h
    · cases h; exact .inr (.inr (.inl ⟨_, _, _, rfl, by assumption, by assumption, rfl⟩))
    · cases h
  · split at h
    · rename_i k' hk
      cases h
      unfold inSc at hk
      split at hk
      · rename_i ds v h1 h2
        split at hk
        · rename_i vs h3
          cases hk
          refine .inr (.inr (.inl ⟨ds, v, vs, ?_, h2, h3, rfl⟩))
          unfold asQ
          split
          · simp [asL] at h1
          · exact h1
        · cases hk
      · cases hk
    · split at h
      · split at h
        · rename_i h1
          simp only [Bool.and_eq_true] at h1
          cases h
          exact .inr (.inr (.inr ⟨_, _, by assumption, by assumption, h1.1, h1.2, rfl⟩))
        · cases h
      · cases h
theorem one_sign {c : Str} (h : c.cps.size = 1) : c = ⟨#[c.cps.getD 0 0]⟩ := by
  obtain ⟨l⟩ := c
  obtain ⟨l⟩ := l
  match l, h with
  | [x], _ => rfl
theorem op_cin (hu : X.A.units + 65 < cLine) (hd : ∀ a kvs, kd.pr a kvs → KDt X.K X.w a kvs) : OpR X (compareOp .In) (r2 ⟨X.K, kd⟩ cls (evCmpD .isin)) := by
  intro pins s σ H x y v u Q I rx ry ⟨ρ, S, a, b, d, sr, ra, rb, e, q⟩
  obtain ⟨k, e1, rfl⟩ := bl_some e
  have qq := q _ _ _ Ext.refl sr (rep_bl (i := k))
  rcases in_cases e1 with ⟨c, z, rfl, rfl, h, rfl⟩ | ⟨c, kvs, rfl, rfl, rfl⟩ | ⟨ds, v', vs, h0, h1, h2, rfl⟩ | ⟨ps, p, h1, h2, h3, h4, rfl⟩
  · exact op_in_sign pins s σ H x y v u Q I rx ry ⟨_, z, by rw [rep_str_of ra]; exact congrArg V.str (one_sign h), rep_str_of rb, qq⟩
  · have e2 := rep_str_of ra
    subst e2
    obtain ⟨ad, rfl, k2⟩ : ∃ a, y = .ref a ∧ ((H a = some (.dK (kvs.map fun p => (Sum.inr p.1, V.str p.2))) ∧ NI ⟨X.K, kd⟩ ρ a) ∨ kd.pr a kvs) := by unfold Rep at rb; exact rb
    rcases k2 with ⟨k2, _⟩ | k2
    · cases ry
      refine d_in (by omega) I (DGet.k (k := Sum.inr c) k2) rx fun s' I' => ⟨.bl _, H, I', rfl, ?_⟩
      rw [valV_dct, Option.isSome_map, ← lookup_any]
      exact qq
    · obtain ⟨es, n, D, ok⟩ := hd _ _ k2
      have f := kdt_ns D ok c
      rw [lookup_any] at qq
      cases z : kvs.lookup c with
      | some v' =>
        rw [z] at f qq
        obtain ⟨t, f⟩ := f
        exact op_in_kd D pins s σ H _ _ v u Q I rx ry ⟨c, _, rfl, rfl, f, qq⟩
      | none =>
        rw [z] at f qq
        exact op_in_kd D pins s σ H _ _ v u Q I rx ry ⟨c, _, rfl, rfl, f, qq⟩
  · obtain ⟨ad, us, rfl, k1, r1⟩ := sr.asQ rb h0
    have e3 := scVs_of r1 h2
    subst e3
    have e4 := scV_of ra h1
    subst e4
    exact op_in_seq pins s σ H _ _ v u Q I rx ry ⟨ad, _, rfl, k1, scV_flat h1, scVs_flat h2, qq⟩
  · exact op_inD hu pins s σ H _ _ v u Q I rx ry ⟨p, ps, sr.toPS ra h2, sr.toPS rb h1, h4, h3, qq⟩
theorem op_cnotin (hu : X.A.units + 65 < cLine) (hd : ∀ a kvs, kd.pr a kvs → KDt X.K X.w a kvs) : OpR X (compareOp .NotIn) (r2 ⟨X.K, kd⟩ cls (evCmpD .notin)) := by
  intro pins s σ H x y v u Q I rx ry ⟨ρ, S, a, b, d, sr, ra, rb, e, q⟩
  obtain ⟨k, e1, rfl⟩ := bl_some e
  have qq := q _ _ _ Ext.refl sr (rep_bl (i := k))
  simp only [evCmp, Option.map_eq_some_iff] at e1
  obtain ⟨k2, e1, rfl⟩ := e1
  rcases in_cases e1 with ⟨c, z, rfl, rfl, h, rfl⟩ | ⟨c, kvs, rfl, rfl, rfl⟩ | ⟨ds, v', vs, h0, h1, h2, rfl⟩ | ⟨ps, p, h1, h2, h3, h4, rfl⟩
  · exact op_notIn_sign pins s σ H x y v u Q I rx ry ⟨_, z, by rw [rep_str_of ra]; exact congrArg V.str (one_sign h), rep_str_of rb, qq⟩
  · have e2 := rep_str_of ra
    subst e2
    obtain ⟨ad, rfl, k2⟩ : ∃ a, y = .ref a ∧ ((H a = some (.dK (kvs.map fun p => (Sum.inr p.1, V.str p.2))) ∧ NI ⟨X.K, kd⟩ ρ a) ∨ kd.pr a kvs) := by unfold Rep at rb; exact rb
    rcases k2 with ⟨k2, _⟩ | k2
    · cases ry
      refine d_notIn (by omega) I (DGet.k (k := Sum.inr c) k2) rx fun s' I' => ⟨.bl _, H, I', rfl, ?_⟩
      rw [valV_dct, Option.isSome_map, ← lookup_any]
      exact qq
    · obtain ⟨es, n, D, ok⟩ := hd _ _ k2
      have f := kdt_ns D ok c
      rw [lookup_any] at qq
      cases z : kvs.lookup c with
      | some v' =>
        rw [z] at f qq
        obtain ⟨t, f⟩ := f
        exact op_notIn_kd D pins s σ H _ _ v u Q I rx ry ⟨c, _, rfl, rfl, f, qq⟩
      | none =>
        rw [z] at f qq
        exact op_notIn_kd D pins s σ H _ _ v u Q I rx ry ⟨c, _, rfl, rfl, f, qq⟩
  · obtain ⟨ad, us, rfl, k1, r1⟩ := sr.asQ rb h0
    have e3 := scVs_of r1 h2
    subst e3
    have e4 := scV_of ra h1
    subst e4
    exact op_notIn_seq pins s σ H _ _ v u Q I rx ry ⟨ad, _, rfl, k1, scV_flat h1, scVs_flat h2, qq⟩
  · exact op_notInD hu pins s σ H _ _ v u Q I rx ry ⟨p, ps, sr.toPS ra h2, sr.toPS rb h1, h4, h3, qq⟩
theorem op_c (hu : X.A.units + 65 < cLine) (hd : ∀ a kvs, kd.pr a kvs → KDt X.K X.w a kvs) (o : CO) : OpR X (compareOp (cop o)) (r2 ⟨X.K, kd⟩ cls (evCmpD o)) := by
  cases o
  · exact op_ceq hu
  · exact op_cne hu
  · exact op_clt
  · exact op_cle
  · exact op_cgt
  · exact op_cge
  · exact op_cin hu hd
  · exact op_cnotin hu hd
end
end MP

set_option linter.all false
set_option maxRecDepth 100000
set_option maxHeartbeats 4000000
/-! MiniPy, 7: subscripts, slices. -/
namespace MP
open PySem PySem.Spec PyProof.Rows L2
section
variable {X : Cx} {kd : KD} {cls : Nat → Addr}
theorem reps_atI {K : KF} {ρ : List Addr} {H : Hp} {ds : List D} {vs : List V} {i : Int} {d : D} (r : Reps K ρ H ds vs) (e : atI ds i = some d) : ∃ v, atI vs i = some v ∧ Rep K ρ H d v := by
  unfold atI at e ⊢
  rw [Reps.len r]
  cases q : ixN ds.length i with
  | none => rw [q] at e; cases e
  | some j =>
    rw [q] at e
    exact Reps.get r e
theorem idx_cases {S : Sto} {x y d : D} (h : evIdx S x y = some d) :
    (∃ z i c, x = .str z ∧ y = .int i ∧ z.length ≤ sizeLine ∧ atI z.cps.toList i = some c ∧ d = .str ⟨#[c]⟩) ∨
    (∃ kvs k v, x = .dct kvs ∧ y = .str k ∧ kvs.lookup k = some v ∧ d = .str v) ∨
    ∃ p i, asQ S x = some p ∧ y = .int i ∧ atI p i = some d := by
  unfold evIdx at h
  split at h
  · split at h
    · simp only [Option.map_eq_some_iff] at h
      obtain ⟨c, h1, rfl⟩ := h
      exact .inl ⟨_, _, c, rfl, rfl, by assumption, h1, rfl⟩
    · cases h
  · simp only [Option.map_eq_some_iff] at h
    obtain ⟨c, h1, rfl⟩ := h
    exact .inr (.inl ⟨_, _, c, rfl, rfl, h1, rfl⟩)
  · split at h
    · exact .inr (.inr ⟨_, _, by assumption, rfl, h⟩)
    · cases h
  · cases h
theorem ix_all (hu : X.A.units + 65 < cLine) (hd : ∀ a kvs, kd.pr a kvs → KDt X.K X.w a kvs) : IxR X (r2 ⟨X.K, kd⟩ cls evIdx) := by
  intro value slice pins s σ H x y v u Q I rx ry ⟨ρ, S, a, b, d, sr, ra, rb, e, q⟩ hs
  rcases idx_cases e with ⟨z, i, c, rfl, rfl, h1, h2, rfl⟩ | ⟨kvs, k, v', rfl, rfl, h1, rfl⟩ | ⟨p, i, h1, rfl, h2⟩
  · exact ix_str value slice pins s σ H x y v u Q I rx ry ⟨z, i, c, rep_str_of ra, rep_int_of rb, h1, h2, q _ _ _ Ext.refl sr rep_str⟩ hs
  · have e2 := rep_str_of rb
    subst e2
    have qq := q _ _ _ Ext.refl sr (rep_str (i := v'))
    obtain ⟨ad, rfl, k2⟩ : ∃ a, x = .ref a ∧ ((H a = some (.dK (kvs.map fun p => (Sum.inr p.1, V.str p.2))) ∧ NI ⟨X.K, kd⟩ ρ a) ∨ kd.pr a kvs) := by unfold Rep at ra; exact ra
    cases rx
    rcases k2 with ⟨k2, _⟩ | k2
    · have g : DGet H ad (kV (Sum.inr k)) (some (V.str v')) := by
        have := DGet.k (k := Sum.inr k) k2
        rw [valV_dct, h1] at this
        exact this
      exact tail_any (dict_typeIs I g) PySem.F.slot_dict_getitem.lookup (d_getItem (by omega) I g ry fun w' s' I' r' => ⟨_, H, I', r', qq⟩) hs
    · obtain ⟨es, n, D, ok⟩ := hd _ _ k2
      have f := kdt_ns D ok k
      rw [h1] at f
      obtain ⟨t, f⟩ := f
      exact tail_any (kd_type D I) PySem.F.slot_dict_getitem.lookup (op_item_kd D pins s σ H (.ref ad) (.str k) (.ref ad) u Q I rfl ry ⟨k, _, .str v', rfl, rfl, f, ⟨t, rfl⟩, qq⟩) hs
  · have e2 := rep_int_of rb
    subst e2
    obtain ⟨ad, vs, rfl, k1, r1⟩ := sr.asQ ra h1
    obtain ⟨v2, g, r2⟩ := reps_atI r1 h2
    rcases k1 with k1 | k1
    · exact ix_list value slice pins s σ H _ _ v u Q I rx ry ⟨ad, vs, i, v2, rfl, rfl, k1, g, q _ _ _ Ext.refl sr r2⟩ hs
    · exact ix_tup value slice pins s σ H _ _ v u Q I rx ry ⟨ad, vs, i, v2, rfl, rfl, k1, g, q _ _ _ Ext.refl sr r2⟩ hs

/-! ### slices -/
def rSl (K : KF) (cls : Nat → Addr) : V → Option Int → Option Int → Hp → VK → Prop := fun x lo hi H Q =>
  ∃ ρ S a d, SR K cls ρ S H ∧ Rep K ρ H a x ∧ evSlc S a lo hi = some d ∧ ∀ ρ' H' v, Ext ρ H ρ' H' → SR K cls ρ' S H' → Rep K ρ' H' d v → Q v H'
theorem slc_cases {S : Sto} {x d : D} {lo hi : Option Int} (h : evSlc S x lo hi = some d) :
    (∃ z, x = .str z ∧ z.length ≤ sizeLine ∧ d = .str (cutS z lo hi)) ∨ (∃ xs, x = .tup xs ∧ d = .tup (cutD xs lo hi)) ∨ ∃ xs, asL S x = some xs ∧ d = .lst (cutD xs lo hi) := by
  unfold evSlc at h
  split at h
  · split at h
    · cases h; exact .inl ⟨_, rfl, by assumption, rfl⟩
    · cases h
  · cases h; exact .inr (.inl ⟨_, rfl, rfl⟩)
  · simp only [Option.map_eq_some_iff] at h
    obtain ⟨xs, h1, rfl⟩ := h
    exact .inr (.inr ⟨xs, h1, rfl⟩)
theorem reps_cut {K : KF} {ρ : List Addr} {H : Hp} {ds : List D} {vs : List V} (lo hi : Option Int) (r : Reps K ρ H ds vs) : Reps K ρ H (cutD ds lo hi) (cutV vs lo hi) := by
  unfold cutD cutV
  rw [Reps.len r]
  exact Reps.take _ (Reps.drop _ r)
theorem sl_all : SlR X (rSl ⟨X.K, kd⟩ cls) := by
  intro pins s σ H x v vl vu lo hi sl Q I rx hs pl pu ⟨ρ, S, a, d, sr, ra, e, q⟩
  rcases slc_cases e with ⟨z, rfl, h, rfl⟩ | ⟨xs, rfl, rfl⟩ | ⟨xs, h, rfl⟩
  · exact sl_str pins s σ H x v vl vu lo hi sl Q I rx hs pl pu ⟨z, rep_str_of ra, h, q _ _ _ Ext.refl sr rep_str⟩
  · obtain ⟨ad, vs, rfl, k1, r1⟩ := rep_tup_of ra
    refine sl_tupA pins s σ H _ v vl vu lo hi sl Q I rx hs pl pu ⟨ad, vs, rfl, k1, fun hw => ?_, fun _ p hp => ?_⟩
    · refine q _ _ _ Ext.refl sr (rep_tup k1 ?_)
      have e1 : cutD xs lo hi = xs := by
        unfold cutD
        rw [← Reps.len r1, hw.1, hw.2, Reps.len r1]
        simp
      rw [e1]; exact r1
    · obtain ⟨x1, s1, k1⟩ := newTup sr hp (reps_cut lo hi r1)
      exact q _ _ _ x1 s1 k1
  · obtain ⟨ad, vs, rfl, k1, r1⟩ := sr.asL ra h
    refine sl_list pins s σ H _ v vl vu lo hi sl Q I rx hs pl pu ⟨ad, vs, rfl, SqL.of k1, fun p hp => ?_⟩
    obtain ⟨x1, s1, k1⟩ := newLst sr hp (reps_cut lo hi r1)
    exact q _ _ _ x1 s1 k1

/-! ### x[::-1] -/
theorem sliceApplied_rev {prog : Program} {w : World} {A : Around} {E : Value → Shared → Prop} {s : Shared} {sl : Addr} {vs : Value} {n : Nat} {Q : Int × Int × Nat → Shared → Prop}
    (hs : s.heap.IsSliceOf sl .none .none vs) (ps : IsPart vs (some (-1))) (h : Q ((n : Int) - 1, -1, n) s) :
    wpAny (model prog w) A (Builtin.Slice.sliceApplied (.ref sl) (pure (n : Int))) Q E s := by
  obtain ⟨os, hos, hcs, hds⟩ := id hs
  unfold Builtin.Slice.sliceApplied Builtin.Slice.sliceFields
  refine wpAny_bind (wpAny_bind (wpAny_field hos hds (x := .none) rfl (wpAny_bind (wpAny_field hos hds (x := .none) rfl (wpAny_bind (wpAny_field hos hds (x := vs) rfl (wpAny_pure ?_)))))))
  refine wpAny_bind (HT.slicePart_ ps ?_)
  show wpAny _ _ (if ((-1 : Int) == 0) = true then _ else _) _ _ s
  rw [if_neg (by decide)]
  refine wpAny_bind (HT.slicePart_ .none (wpAny_bind (HT.slicePart_ .none (wpAny_bind (wpAny_pure ?_)))))
  have e1 : Builtin.Slice.sliceAdjust none none (-1) (n : Int) = ((n : Int) - 1, -1) := rfl
  have e2 : Builtin.Slice.slicePlaces ((n : Int) - 1) (-1) (-1) = n := by
    unfold Builtin.Slice.slicePlaces
    simp only [show ¬ ((-1 : Int) > 0) by omega, if_false, Int.neg_neg, Int.ediv_one]
    split <;> omega
  show wpAny _ _ (match Builtin.Slice.sliceAdjust none none (-1) (n : Int) with | (lo, hi) => pure (lo, (-1 : Int), Builtin.Slice.slicePlaces lo hi (-1))) _ _ s
  rw [e1]
  show wpAny _ _ (pure ((n : Int) - 1, (-1 : Int), Builtin.Slice.slicePlaces ((n : Int) - 1) (-1) (-1))) _ _ s
  rw [e2]
  exact wpAny_pure h
theorem fm_congr {α β : Type} {f g : α → Option β} : ∀ {l : List α}, (∀ x ∈ l, f x = g x) → l.filterMap f = l.filterMap g
  | [], _ => rfl
  | a :: l, h => by
    rw [List.filterMap_cons, List.filterMap_cons, h a List.mem_cons_self, fm_congr fun x hx => h x (List.mem_cons_of_mem _ hx)]
theorem fm_all {α : Type} (ys : List α) : ((List.range ys.length).filterMap fun (k : Nat) => ys[k]?) = ys := by
  induction ys with
  | nil => rfl
  | cons a as ih =>
    rw [List.length_cons, List.range_succ_eq_map, List.filterMap_cons]
    simp only [List.getElem?_cons_zero, List.filterMap_map]
    congr 1
theorem rev_pick (xs : List Value) : ((List.range xs.length).filterMap fun (k : Nat) => xs.toArray[(((xs.length : Int) - 1) + (k : Int) * (-1)).toNat]?) = xs.reverse := by
  have e : ((List.range xs.length).filterMap fun (k : Nat) => xs.toArray[(((xs.length : Int) - 1) + (k : Int) * (-1)).toNat]?) = (List.range xs.length).filterMap fun (k : Nat) => xs.reverse[k]? := by
    refine fm_congr fun k hk => ?_
    have hk := List.mem_range.mp hk
    rw [List.getElem?_reverse hk]
    have : (((xs.length : Int) - 1) + (k : Int) * (-1)).toNat = xs.length - 1 - k := by omega
    rw [this]
    simp
  have h2 := fm_all xs.reverse
  rw [List.length_reverse] at h2
  rw [e, h2]
theorem getItem_tuple_rev {prog : Program} {w : World} {A : Around} {E : Value → Shared → Prop} {s : Shared} {t sl : Addr} {items : List Value} {vs : Value} {Q : Value → Shared → Prop} (ht : IsTup s.heap t items.toArray)
    (hs : s.heap.IsSliceOf sl .none .none vs) (ps : IsPart vs (some (-1)))
    (h : Q (.ref s.heap.objs.size) { s with heap := s.heap.push { cls := .type "tuple", data := .seq items.reverse.toArray } })
    (hsz : items.length ≤ sizeLine) : wpAny (model prog w) A (getItem (.ref t) (.ref sl)) Q E s := by
  have htake : sizeOk (.seq items.reverse.toArray) := by
    show items.reverse.toArray.size ≤ sizeLine
    rw [List.size_toArray, List.length_reverse]; exact hsz
  obtain ⟨os, hos, hcs, hds⟩ := id hs
  have hTs : s.TypeIs (.ref sl) "slice" := ⟨os, hos, hcs⟩
  unfold getItem
  try with_reducible refine wpAny_holding ?_
  first | refine wpAny_bind (wpAny_pure ?_) | skip
  refine wpAny_bind (wpAny_sequenceKey ht.typeIs (by decide) ?_)
  refine wpAny_bind (wpAny_callSpecial?_slot (name := Str.ofString "__getitem__") ht.typeIs PyProof.Rows.slot_tuple_getitem
    (wpAny_call_entry PyProof.Rows.slot_tuple_getitem ht.typeIs entry_tuple_getitem ?_ (args_tuple_getitem _ _)))
  show wpAny _ _ (Builtin.Tuple.tupleItemsOf (.ref t) >>= _) _ _ s
  refine wpAny_bind (tupleItemsOf_ ht ?_)
  refine wpAny_bind (wpAny_typeOf hTs ?_)
  rw [if_pos (by decide)]
  refine wpAny_bind (sliceApplied_rev (n := items.toArray.size) hs ps ?_)
  show wpAny _ _ (if (((items.toArray.size : Int) - 1) == 0 && (-1 : Int) == 1 && items.toArray.size == items.toArray.size) = true then _ else _) _ _ s
  rw [if_neg (by simp)]
  have e := rev_pick items
  rw [List.size_toArray, e]
  first
    | exact wpAny_bind (m := Builtin.Tuple.tupleExact _) (wpAny_newObj_type (wpAny_pure ⟨_, rfl, wpAny_pure h⟩) htake)
    | exact wpAny_bind (m := Builtin.Tuple.tupleExact _) (wpAny_newObj_type (wpAny_bind (wpAny_pure (wpAny_pure ⟨_, rfl, wpAny_pure h⟩))) htake)
    | exact wpAny_bind (wpAny_bind (m := Builtin.Tuple.tupleExact _) (wpAny_newObj_type (wpAny_pure (wpAny_pure ⟨_, rfl, wpAny_pure h⟩)) htake))
    | exact wpAny_bind (wpAny_bind (m := Builtin.Tuple.tupleExact _) (wpAny_newObj_type (wpAny_pure ⟨_, rfl, wpAny_pure h⟩) htake))
end
end MP

set_option linter.all false
set_option maxRecDepth 100000
set_option maxHeartbeats 4000000
/-! MiniPy: int(text) of up to 4300 signs. -/
namespace MP
open PySem PySem.Calls PySem.NumText PyProof.Rows PySem.W PySem.W.KIN

theorem intMax_ok {M : Model} {A : Around} {E : Value → Shared → Prop} {s : Shared} {Q : Nat → Shared → Prop} (hn : s.heap.NoDigits) (h : Q 4300 s) : wpAny M A Builtin.intMaxStrDigits Q E s := by
  obtain ⟨mc, hns, hnone⟩ := hn
  unfold Builtin.intMaxStrDigits
  refine wpAny_bind (wpAny_nsGet hns ?_)
  rw [hnone]
  exact wpAny_pure h
theorem wp_textN {M : Model} {A : Around} {E : Value → Shared → Prop} {s : Shared} {Q : Value → Shared → Prop} {v : Value} {text : List Nat} {n : Int}
    (hn : s.heap.NoDigits) (hs : ¬ (text.takeWhile (· != 0)).length ≤ 640) (hr : (int_private% "readNumeral") 4300 10 (text.takeWhile (· != 0)) = (int_private% "Numeral.value") n)
    (ha : ((text.takeWhile (· != 0)).length == text.length) = true) (h : Q (.int n s.toks) { s with toks := s.toks + 1 }) :
    wpAny M A ((int_private% "intFromText") v text 10) Q E s := by
  obtain ⟨hp, g, d, tk, os⟩ := s
  repeat (any_goals (first
    | assumption
    | (with_reducible refine intMax_ok hn ?_)
    | (with_reducible refine wpAny_ite_false (decide_eq_false hs) ?_)
    | (with_reducible refine wpAny_ite_true (decide_eq_true ha) ?_)
    | wp_step))
  all_goals (try rw [hr])
  all_goals (try dsimp only)
  repeat (any_goals (first
    | assumption
    | (with_reducible refine wpAny_ite_false (decide_eq_false hs) ?_)
    | (with_reducible refine wpAny_ite_true (decide_eq_true ha) ?_)
    | wp_step))
structure HidN (p : Prop) : Prop where
  out : p
theorem meets_textN {x : PySem.Str} {u : Tok} {n : Int} (hl : ¬ (numSeenOf x).length ≤ 640) (hx : x.length ≤ sizeLine) (hn : PySem.intText? x = some n) :
    Meets (Builtin.«int.__new__» ⟨[.type "int", .str x u], []⟩) (fun A R s => s.heap.NoDigits ∧ R (.ok (.ret (.int n s.toks))) { s with toks := s.toks + 1 }) := by
  intro prog w A R s ⟨hd, h⟩
  refine wpAny_mono (?_ : wpAny (model prog w) A.in1 _ (fun fin s' => ∃ v, fin = .done (.ret v) ∧ (v = .int n s.toks ∧ s' = { s with toks := s.toks + 1 })) _ s) (fun fin s' h' => by obtain ⟨v, rfl, rfl, rfl⟩ := h'; exact h) fun _ _ x => x
  obtain ⟨hp, g, d, tk, os⟩ := s
  have f1 := F.conv_sub_int
  have f2 := F.madeHere_int
  have f3 := str_int
  have f4 := str_idx
  have f5 := str_trunc
  have f6 : typeOf (.str x u) = pure (.type "str") := rfl
  have hr : (int_private% "readNumeral") 4300 10 (numSeenOf x) = (int_private% "Numeral.value") n ∧ ((numSeenOf x).length == (numTextOf x).length) = true := by
    rcases PySem.read4300 x hx with ⟨m, h1, h2, h3⟩ | ⟨h1, _⟩
    · rw [hn] at h1
      injection h1 with h1
      subst h1
      exact ⟨h3, h2⟩
    · rw [hn] at h1
      cases h1
  have hk := HidN.mk (And.intro hl hr)
  have hdd := HidN.mk hd
  clear hr hl hn hx hd
  repeat (any_goals (first
    | assumption
    | ((with_reducible show wpAny _ _ ((int_private% "intFromText") _ _ _) _ _ _); refine wp_textN hdd.out hk.out.1 hk.out.2.1 hk.out.2.2 ?_)
    | wp_step))
  all_goals first | exact ⟨_, rfl, rfl, rfl⟩ | skip
theorem tw_all {p : Nat → Bool} : ∀ {l : List Nat}, (∀ c ∈ l, p c = true) → l.takeWhile p = l
  | [], _ => rfl
  | c :: l, h => by
    rw [List.takeWhile_cons, h c List.mem_cons_self, if_pos rfl, tw_all fun x hx => h x (List.mem_cons_of_mem _ hx)]
theorem seen_all {x : PySem.Str} (h : x.cps.all (fun c => decide (0 < c ∧ c < 128)) = true) : (numSeenOf x).length = x.length := by
  have h1 : x.cps.all (· < 128) = true := by
    rw [Array.all_eq_true] at h ⊢
    intro i hi
    have := h i hi
    simp at this ⊢
    exact this.2
  have e : numTextOf x = x.cps.toList := by
    show (if x.cps.all (· < 128) then x.cps.toList else Unicode.numberText x.cps.toList) = _
    rw [if_pos h1]
  have e2 : numSeenOf x = x.cps.toList := by
    show (numTextOf x).takeWhile (· != 0) = _
    rw [e]
    refine tw_all fun c hc => ?_
    rw [Array.all_eq_true] at h
    obtain ⟨i, hi, rfl⟩ := List.mem_iff_getElem.mp hc
    have := h i (by simpa using hi)
    simp at this ⊢
    omega
  rw [e2]
  exact Array.length_toList
theorem int_text {prog : Program} {w : World} {A : Around} {E : Value → Shared → Prop} {s : Shared} {Q : Value → Shared → Prop} {x : PySem.Str} {t : Tok} {n : Int}
    (hd : s.heap.NoDigits) (hx : x.length ≤ 640 ∨ (x.length ≤ 4300 ∧ x.cps.all (fun c => decide (0 < c ∧ c < 128)) = true)) (hn : PySem.intText? x = some n)
    (h : Q (.int n s.toks) { s with toks := s.toks + 1 }) : wpAny (model prog w) A (call (.type "int") [.str x t]) Q E s := by
  by_cases hl : x.length ≤ 640
  · exact call_text hn hl h
  · rcases hx with hx | ⟨h1, h2⟩
    · exact absurd hx hl
    · refine call_int_1 (meets_textN (by rw [seen_all h2]; exact hl) ?_ hn) ⟨hd, rfl, h⟩
      rw [sizeLine_eq]; omega
end MP

set_option linter.all false
set_option maxRecDepth 100000
set_option maxHeartbeats 4000000
/-! MiniPy, 8: built-ins, methods. -/
namespace MP
open PySem PySem.Spec PyProof.Rows L2
open PySem.W (Holds HoldAll Datum DatumOrd maxOf max_list_datum max_tuple_datum)
/-- the written part has no limit of digits -/
def NoLim (K : PySem.W.Frag) : Prop := PySem.W.nsIn K cStatics "sys.int_max_str_digits" = some none
theorem noDigits_of {K : PySem.W.Frag} {h : Heap} (X : K.In h) (G : h.NoLimit) (e : NoLim K) : h.NoDigits := by
  obtain ⟨mc, G, _⟩ := G
  refine ⟨mc, G, ?_⟩
  unfold NoLim at e
  obtain ⟨o, es, ep, ho, hd, _, hf⟩ := G
  unfold PySem.W.nsIn at e
  split at e
  · rename_i cls dict es' epo slots hk
    have := X _ _ hk
    rw [ho] at this
    have := Option.some.inj this
    subst this
    dsimp only at hd
    cases hd
    split at e
    · cases e
    · rename_i he
      rw [← hf]
      unfold nsFind findBy
      rw [← Array.find?_toList, he]
      rfl
  · cases e
theorem Inv.noDigits {X : Cx} {pins : List (Addr × Obj)} {σ : L2.St} {H : Hp} {s : Shared} (I : Inv X pins σ H s) (e : NoLim X.K) : s.heap.NoDigits :=
  noDigits_of I.kIn I.nolimit e
theorem intsAre_of : ∀ {ns : List Int} {us : List Value}, Vals (ns.map V.int) us → IntsAre us ns
  | [], _, h => by cases h; exact .nil
  | n :: ns, _, h => by
    cases h with
    | cons r rs =>
      obtain ⟨t, rfl⟩ := r
      exact .cons n t (intsAre_of rs)
section
variable {X : Cx} {kd : KD} {cls : Nat → Addr}
def rBi (K : KF) (cls : Nat → Addr) (f : Bi) : List V → Hp → VK → Prop := rV K cls (evBi f)
theorem bi_one {α : Type} {S : Sto} {ds : List D} {d : D} (f : Sto → D → Option D) (h : (match ds with | [x] => f S x | _ => none) = some d) : ∃ x, ds = [x] ∧ f S x = some d := by
  split at h
  · exact ⟨_, rfl, h⟩
  · cases h
theorem ck_len : CallR X (.builtin "len") (rBi ⟨X.K, kd⟩ cls .len) := by
  intro pins s σ H xs us Q I rs ⟨ρ, S, ds, d, sr, rp, e, q⟩
  unfold evBi at e
  dsimp only at e
  split at e
  · rename_i z
    obtain ⟨x, rfl, r1⟩ := reps1 rp
    split at e
    · cases e
      rename_i hz
      have ex := rep_str_of r1
      exact call_len pins s σ H _ us Q I rs ⟨x, z.length, rfl, by rw [ex]; exact ⟨hz, rfl⟩, q _ _ _ Ext.refl sr rep_int⟩
    · cases e
  · simp only [Option.map_eq_some_iff] at e
    obtain ⟨l, e1, rfl⟩ := e
    obtain ⟨x, rfl, r1⟩ := reps1 rp
    obtain ⟨a, vs, rfl, k, r2⟩ := sr.asQ r1 e1
    have hl := Reps.len r2
    refine call_len pins s σ H _ us Q I rs ⟨.ref a, l.length, rfl, ?_, q _ _ _ Ext.refl sr rep_int⟩
    rcases k with k | k
    · exact .inl ⟨vs, k, hl.symm⟩
    · exact .inr ⟨vs, k, hl.symm⟩
  · cases e
theorem ck_all (hc : X.calm = true) : CallR X (.builtin "all") (rBi ⟨X.K, kd⟩ cls .all) := by
  intro pins s σ H xs us Q I rs ⟨ρ, S, ds, d, sr, rp, e, q⟩
  unfold evBi at e
  dsimp only at e
  split at e
  · simp only [Option.map_eq_some_iff, Option.bind_eq_some_iff] at e
    obtain ⟨bs, ⟨l, e1, e2⟩, rfl⟩ := e
    obtain ⟨x, rfl, r1⟩ := reps1 rp
    obtain ⟨a, vs, rfl, k, r2⟩ := sr.asL r1 e1
    have := asBls_of r2 e2
    subst this
    exact cr_all hc pins s σ H _ us Q I rs ⟨a, bs, rfl, SqL.of k, q _ _ _ Ext.refl sr rep_bl⟩
  · cases e
theorem ck_any (hc : X.calm = true) : CallR X (.builtin "any") (rBi ⟨X.K, kd⟩ cls .any) := by
  intro pins s σ H xs us Q I rs ⟨ρ, S, ds, d, sr, rp, e, q⟩
  unfold evBi at e
  dsimp only at e
  split at e
  · simp only [Option.map_eq_some_iff, Option.bind_eq_some_iff] at e
    obtain ⟨bs, ⟨l, e1, e2⟩, rfl⟩ := e
    obtain ⟨x, rfl, r1⟩ := reps1 rp
    obtain ⟨a, vs, rfl, k, r2⟩ := sr.asL r1 e1
    have := asBls_of r2 e2
    subst this
    exact cr_any hc pins s σ H _ us Q I rs ⟨a, bs, rfl, SqL.of k, q _ _ _ Ext.refl sr rep_bl⟩
  · cases e
theorem ck_tuple : CallR X (.type "tuple") (rBi ⟨X.K, kd⟩ cls .tuple) := by
  intro pins s σ H xs us Q I rs ⟨ρ, S, ds, d, sr, rp, e, q⟩
  unfold evBi at e
  dsimp only at e
  split at e
  · simp only [Option.map_eq_some_iff] at e
    obtain ⟨l, e1, rfl⟩ := e
    obtain ⟨x, rfl, r1⟩ := reps1 rp
    obtain ⟨a, vs, rfl, k, r2⟩ := sr.asQ r1 e1
    refine call_tuple_of pins s σ H _ us Q I rs ⟨a, vs, rfl, ?_⟩
    rcases k with k | k
    · refine .inl ⟨k, fun p hp => ?_⟩
      obtain ⟨x1, s1, k1⟩ := newTup sr hp r2
      exact q _ _ _ x1 s1 k1
    · exact .inr ⟨k, q _ _ _ Ext.refl sr (rep_tup k r2)⟩
  · cases e
theorem ck_list : CallR X (.type "list") (rBi ⟨X.K, kd⟩ cls .list) := by
  intro pins s σ H xs us Q I rs ⟨ρ, S, ds, d, sr, rp, e, q⟩
  unfold evBi at e
  dsimp only at e
  split at e
  · simp only [Option.map_eq_some_iff] at e
    obtain ⟨l, e1, rfl⟩ := e
    obtain ⟨x, rfl, r1⟩ := reps1 rp
    obtain ⟨a, vs, rfl, k, r2⟩ := sr.asQ r1 e1
    refine call_list_of pins s σ H _ us Q I rs ⟨a, vs, rfl, k, fun p hp => ?_⟩
    obtain ⟨x1, s1, k1⟩ := newLst sr hp r2
    exact q _ _ _ x1 s1 k1
  · cases e
theorem ck_int (hl : NoLim X.K) : CallR X (.type "int") (rBi ⟨X.K, kd⟩ cls .int) := by
  intro pins s σ H xs us Q I rs ⟨ρ, S, ds, d, sr, rp, e, q⟩
  unfold evBi at e
  dsimp only at e
  split at e
  · cases e
    obtain ⟨x, rfl, r1⟩ := reps1 rp
    exact call_int1 pins s σ H _ us Q I rs (.inl ⟨_, by rw [rep_int_of r1], q _ _ _ Ext.refl sr rep_int⟩)
  · split at e
    · rename_i hz
      simp only [Option.map_eq_some_iff] at e
      obtain ⟨n, e1, rfl⟩ := e
      obtain ⟨x, rfl, r1⟩ := reps1 rp
      have ex := rep_str_of r1
      subst ex
      cases rs with
      | cons r2 rs =>
        cases rs
        obtain ⟨t, rfl⟩ := r2
        exact int_text (Inv.noDigits I hl) hz e1 ⟨.int n, H, I.tok _, ⟨_, rfl⟩, q _ _ _ Ext.refl sr rep_int⟩
    · cases e
  · cases e
theorem ck_str (hh : X.calm = true) (hl : NoLim X.K) : CallR X (.type "str") (rBi ⟨X.K, kd⟩ cls .str) := by
  intro pins s σ H xs us Q I rs ⟨ρ, S, ds, d, sr, rp, e, q⟩
  unfold evBi at e
  dsimp only at e
  split at e
  · simp only [Option.map_eq_some_iff] at e
    obtain ⟨z, e1, rfl⟩ := e
    unfold intTx at e1
    split at e1
    · rename_i hz
      cases e1
      obtain ⟨x, rfl, r1⟩ := reps1 rp
      have ex := rep_int_of r1
      subst ex
      cases rs with
      | cons r2 rs =>
        cases rs
        obtain ⟨t, rfl⟩ := r2
        exact str_of_int_or (I.ok.hd hh) (Inv.noDigits I hl) (fun _ => ⟨.str _, H, I.tok _, ⟨_, rfl⟩, q _ _ _ Ext.refl sr rep_str⟩) fun h2 => absurd hz (Nat.not_lt.mpr h2)
    · cases e1
  · cases e
theorem ck_abs : CallR X (.builtin "abs") (rBi ⟨X.K, kd⟩ cls .abs) := by
  intro pins s σ H xs us Q I rs ⟨ρ, S, ds, d, sr, rp, e, q⟩
  unfold evBi at e
  dsimp only at e
  split at e
  · cases e
    obtain ⟨x, rfl, r1⟩ := reps1 rp
    exact call_abs pins s σ H _ us Q I rs ⟨_, by rw [rep_int_of r1], q _ _ _ Ext.refl sr rep_int⟩
  · cases e
theorem ck_max (hc : X.calm = true) (hu : X.A.units + 65 < cLine) : CallR X (.builtin "max") (rBi ⟨X.K, kd⟩ cls .max) := by
  intro pins s σ H xs us Q I rs ⟨ρ, S, ds, d, sr, rp, e, q⟩
  unfold evBi at e
  dsimp only at e
  split at e
  · simp only [Option.map_eq_some_iff, Option.bind_eq_some_iff] at e
    obtain ⟨ns, ⟨l, e1, e2⟩, m, e3, rfl⟩ := e
    obtain ⟨x, rfl, r1⟩ := reps1 rp
    obtain ⟨a, vs, rfl, k, r2⟩ := sr.asQ r1 e1
    have := asInts_of r2 e2
    subst this
    cases ns with
    | nil => simp [maxI] at e3
    | cons n0 ns =>
      simp only [maxI, Option.some.injEq] at e3
      have hm : maxOf n0 ns = m := by
        rw [← e3]
        unfold maxOf
        congr 1
        funext a b
        by_cases hab : a < b
        · rw [if_pos hab, if_pos (show DatumOrd.lt a b = true from decide_eq_true hab)]
        · rw [if_neg hab, if_neg (show ¬ DatumOrd.lt a b = true from fun z => hab (of_decide_eq_true z))]
      cases rs with
      | cons r2 rs =>
        cases rs
        cases r2
        have qq := q _ _ _ Ext.refl sr (rep_int (i := m))
        have fin : ∀ (v : Value) h' tk, Holds h' v m → (∀ b o, s.heap.get? b = some o → h'.get? b = some o) → EP X pins σ Q v { s with heap := h', toks := tk } := by
          intro v h' tk hv hk
          obtain ⟨as, hv⟩ := hv
          have hv : Reads h' v (.int m) as := hv
          cases hv
          exact ⟨.int m, H, I.kept hk, ⟨_, rfl⟩, qq⟩
        rcases k with k | k
        · obtain ⟨its, rv, hl, _⟩ := I.list k
          exact max_list_datum (x := n0) (xs := ns) (I.ok.hd hc) hl.isList (HoldAll.of_ints (intsAre_of rv)) (by show X.A.units + 1 + 0 < cLine; omega) fun i v h' tk _ hv hk => fin v h' tk (hm ▸ hv) hk
        · obtain ⟨its, rv, hl, _⟩ := I.tuple k
          exact max_tuple_datum (x := n0) (xs := ns) (I.ok.hd hc) hl (HoldAll.of_ints (intsAre_of rv)) (by show X.A.units + 1 + 0 < cLine; omega) fun i v h' tk _ hv hk => fin v h' tk (hm ▸ hv) hk
  · cases e
end
end MP

set_option linter.all false
set_option maxRecDepth 100000
set_option maxHeartbeats 4000000
/-! MiniPy: defs called where no repr is under way. -/
namespace MG
open PySem PySem.Spec PyProof.Rows L2

/-- a def's promise, for callers under no repr -/
structure FnG (P : Program) (w : World) (K : PySem.W.Frag) (mg : Str → Option Value) (base : Heap) (CX : CXT) (k : Nat) (f : Addr) (fd : FuncData) (ps : List Str) (sp : Sp) : Prop where
  len : ∀ vs H Q E, sp vs H Q E → vs.length = ps.length
  run : ∀ (A : Around) (outer : List PySem.Env) (s : Shared) (H : Hp) (args : Args) (us : List Value) (vs : List V) (Q : VK) (E : XK),
    Room k A → A.guards = some [] → Env0 P w K mg base A outer s H → BindsTo s fd args (ps.zip us) → Vals vs us → sp vs H Q E →
      codeAny (model P w) A (.call (.ref f) args) (CR CX outer P w H s Q E) s
theorem deeper_guards {A : Around} {env : PySem.Env} (h : A.guards = some []) : (A.deeper env).guards = some [] := by
  first
    | exact h
    | (simp [Around.deeper, Around.under, h])
    | (unfold Around.deeper Around.under; simp [pushGuards, Code.guards, Code.isGuard, h])
theorem fn_ofG {CX : CXT} {P : Program} {w : World} {K : PySem.W.Frag} {mg : Str → Option Value} {base : Heap} {k : Nat} {f : Addr} {name qual : Str} {params : Arguments}
    {body : List Stmt} {scope : Scope} {dV kV doc pm cdv ct oc : Value} {an od : Option Addr} {osl : Array (Option Value)} {N ps : List Str} {sp : Sp}
    (lk : K.lookup f = some ⟨oc, od, .func (PySem.W.fnOf name qual params body scope dV kV doc pm an cdv ct), osl⟩) (hcd : PySem.W.codeIn K cdv qual = true) (S : FnScope N ps scope)
    (len : ∀ vs H Q E, sp vs H Q E → vs.length = ps.length)
    (hbody : ∀ (A : Around) (outer : List PySem.Env) (s : Shared) (H : Hp) (vs : List V) (Q : VK) (E : XK),
      Room k (A.deeper (envOfC qual scope s.heap.objs.size f cdv)) → (A.deeper (envOfC qual scope s.heap.objs.size f cdv)).guards = some [] → sp vs H Q E →
      ∃ t, PSs (cxOf CX P w K mg base N qual scope f cdv A outer s H E) body t ∧ t { nx := fun _ J => Q .non J, rt := Q } (start N vs) H) :
    FnG P w K mg base CX (k + 1) f (PySem.W.fnOf name qual params body scope dV kV doc pm an cdv ct) ps sp := by
  refine ⟨len, fun A outer s H args us vs Q E hr hg e0 hb r hsp => ?_⟩
  have hl := len _ _ _ _ hsp
  have here : ∀ b o, base.get? b = some o → s.heap.get? b = some o := fun b o e => (e0.bs b o e).1
  have kinds : ∀ q ∈ ps.zip us, scope.names.lookup q.1 = some .local ∨
      (scope.names.lookup q.1 = some .cell ∧ ((cellsFrom (s.heap.objs.size + 1) scope.names []).lookup q.1).isSome = true) := by
    intro ⟨n, v⟩ hq
    rcases S.par n (List.of_mem_zip hq).1 with c | c
    · exact .inl c
    · exact .inr ⟨c, PySem.W.cellsFrom_some _ _ _ (.inl c)⟩
  refine codeAny_call_function hr.depth (e0.mod.kin.keeps here _ _ lk) rfl S.co S.gen rfl (PySem.W.codeRec_of (e0.mod.kin.keeps here) hcd) (hb _ _ _ _ ?_)
  refine wpAny_newFunctionEnv_cells S.kind kinds fun env he s1 x => ?_
  subst he
  refine ⟨(e0.mod.nolimit.keeps here).keeps x.toInCall.keep, codeAny_func ?_⟩
  obtain ⟨t, ht, hq⟩ := hbody A outer s H vs Q E (hr.deeper _) (deeper_guards hg) hsp
  have I := inv_start (CX := CX) (E := E) S hr.hd e0 hl r x
  refine wpAny_mono (ht.run [] s1 (start N vs) H _ I hq) (fun fl z hs => ?_) fun e z hs => hs
  cases fl with
  | ret u => obtain ⟨v, _, J, I1, rv, q⟩ := hs; exact ⟨v, J, I1.os, I1.bare, I1.base, I1.hok, rv, q⟩
  | next => obtain ⟨_, J, I1, q⟩ := hs; exact ⟨V.non, J, I1.os, I1.bare, I1.base, I1.hok, (rfl : Value.none = Value.none), q⟩
  | brk => obtain ⟨_, _, _, q⟩ := hs; exact False.elim q
  | cont => obtain ⟨_, _, _, q⟩ := hs; exact False.elim q
section
variable {X : Cx} {CX : CXT} {k : Nat} {f : Addr} {fd : FuncData} {ps : List Str} {sp : Sp} {E : L2.St → XK} {x : Str} {p pos : Pos} {e : Expr} {es : List Expr} {t : TA}
theorem run_fnG {pins : List (Addr × Obj)} {σ : L2.St} {H : Hp} {s : Shared} {Q : VK} {us : List Value} {vs : List V} (F : FnG X.prog X.w X.K X.mg X.base CX k f fd ps sp) (hr : Room k X.A)
    (hg : X.A.guards = some []) (hb : Binds X.K fd ps []) (hx : PassesAt CX X σ (E σ)) (I : Inv X pins σ H s) (r : Vals vs us) (h : sp vs H Q (E σ)) :
    wpAny (model X.prog X.w) X.A (call (.ref f) us) (EP X pins σ Q) X.xe s := by
  have hl : us.length = ps.length := by rw [← r.length]; exact F.len _ _ _ _ h
  have b := hb s us I.kIn (by rw [List.append_nil]; exact hl)
  rw [List.append_nil] at b
  refine wpAny_call (codeAny_mono (F.run X.A X.stack s H ⟨us, []⟩ us vs Q (E σ) hr hg I.env0 b r h) fun r z hq => ?_)
  cases r with
  | error u => exact hx pins H s u z I hq
  | ok fl =>
    cases fl with
    | ret u => exact I.after hq
    | next => exact False.elim hq
    | brk => exact False.elim hq
    | cont => exact False.elim hq
def tCallG (sp : Sp) (E : L2.St → XK) (t : TA) : TE := fun σ H Q => t σ H fun vs J => sp vs J Q (E σ)
theorem pe_callG (F : FnG X.prog X.w X.K X.mg X.base CX k f fd ps sp) (hr : Room k X.A) (hg : X.A.guards = some []) (hG : Gl X x) (hm : X.mg x = some (.ref f)) (hk : PySem.W.keepIn X.K (.ref f) = true)
    (hb : Binds X.K fd ps []) (hx : ∀ σ, PassesAt CX X σ (E σ)) (ha : PA X (e :: es) t) (hdb : (x == ("__debug__" : Str)) = false)
    (he : starEach (e :: es) X.env = (false, eval e X.env) :: starEach es X.env) (hpl : (backTo pos (starEach es X.env)).any (·.1) = false) :
    PE X (.Call (.Name x p) (e :: es) [] pos) (tCallG sp E t) := by
  refine ⟨fun pins s σ H Q I h => ?_⟩
  refine wpAny_Call_Name_kw (ld_glob I hG hm ?_ hdb)
  refine PySem.W.callWith_K (h₀ := X.base) I.ok.mod.kin hk (thn (ha.run pos pins s σ H _ I h) fun us s1 ⟨vs, H1, I1, r, q⟩ => ⟨I1.kIn, ?_⟩) he hpl
  exact run_fnG F hr hg hb (hx σ) I1 r q
end
end MG

set_option linter.all false
set_option maxRecDepth 100000
set_option maxHeartbeats 4000000
/-! MiniPy, 9: a small expression's outcome is that of the written one. -/
namespace MP
open PySem PySem.Spec PyProof.Rows L2

/-- what an exception is to be handed on with -/
def ExX (ad : Ad) (K : KF) (W : Value → Option Addr → Hp → Prop) : Nat → D → Sto → List Addr → Hp → Prop :=
  fun c m _ ρ H => ∀ t v, H t = some (.tup [v]) → Rep K ρ H m v → W (.ref (ad.exc c)) (some t) H
/-- what a def promises, its outcome being told by f -/
def specF (ad : Ad) (F : PySem.W.Frag) (pr : Addr → List (Str × Str) → Prop) (f : List D → Sto → R D) : Sp := fun vs H Q E =>
  ∃ ex ρ S ds, SR ⟨F, ⟨pr, ex⟩⟩ ad.cls ρ S H ∧ Reps ⟨F, ⟨pr, ex⟩⟩ ρ H ds vs ∧
    Out ⟨F, ⟨pr, ex⟩⟩ ad.cls (f ds S) ρ H (fun d _ ρ' H' => ∀ v, Rep ⟨F, ⟨pr, ex⟩⟩ ρ' H' d v → Q v H') (ExX ad ⟨F, ⟨pr, ex⟩⟩ E)

def bltL : List Str := ["len", "all", "any", "tuple", "list", "int", "str", "abs", "max", "repr", "isinstance", "range", "bool"]
/-- the facts of the text -/
structure Fx (T : Tab) (ad : Ad) (cfg : Cfg) (pr : Addr → List (Str × Str) → Prop) (k : Nat) (prog : Program) (w : World) (K : PySem.W.Frag) (mg : Str → Option Value) (base : Heap) : Prop where
  blt : ∀ x ∈ bltL, mg x = none
  fns : ∀ i x, T.fns[i]? = some x → mg x = some (.ref (ad.fn i)) ∧ PySem.W.keepIn K (.ref (ad.fn i)) = true ∧ ∃ ps, Binds K (ad.fd i) ps [] ∧
    MG.FnG prog w K mg base (MX.CXQ prog w) k (ad.fn i) (ad.fd i) ps (specF ad K pr (cfg.call i))
  gls : ∀ g x, T.gls[g]? = some x → ∃ u v, mg x = some u ∧ RelV v u ∧ ∀ ex ρ H, Rep ⟨K, ⟨pr, ex⟩⟩ ρ H (cfg.glb g) v
  exs : ∀ i x, T.exs[i]? = some x → mg x = some (.ref (ad.exc i)) ∧ PySem.W.keepIn K (.ref (ad.exc i)) = true ∧
    (∃ (bmB : List Value) (B newId initId : String), ExcBaseFacts B newId initId bmB ∧ PySem.W.excIn K (ad.exc i) bmB newId = true) ∧
    PySem.W.subIn K (.ref (ad.exc i)) (.type "BaseException") = some true ∧ PySem.W.typeIn K (.ref (ad.exc i)) = some (.type "type") ∧ PySem.W.exmOne K (.ref (ad.exc i)) (.ref (ad.exc i)) = some true
  lim : NoLim K
  dts : ∀ a kvs, pr a kvs → KDt K w a kvs
/-- a good context -/
structure Gd (T : Tab) (N : List Str) (ad : Ad) (cfg : Cfg) (kd : KD) (k : Nat) (X : Cx) (W : WX) : Prop where
  hN : X.N = N
  nd : N.Nodup
  calm : X.calm = true
  room : Room k X.A
  grd : X.A.guards = some []
  tk : MX.Takes X W
  stk : ∃ e l, X.stack = e :: l ∧ e.frame = X.env.frame
  frm : ∃ L, X.env.frame = some L
  fx : Fx T ad cfg kd.pr k X.prog X.w X.K X.mg X.base

section
variable {T : Tab} {N : List Str} {ad : Ad} {cfg : Cfg} {kd : KD} {k : Nat} {X : Cx} {W : WX}

theorem Gd.hu (g : Gd T N ad cfg kd k X W) : X.A.units + 65 < cLine := by have := g.room.un; omega
/-- the reading of a small expression -/
def tE (ad : Ad) (K : KF) (cfg : Cfg) (W : WX) (m : E) : TE := fun σ H Q =>
  ∃ ρ S env, SR K ad.cls ρ S H ∧ Sig K ρ H env σ ∧ Out K ad.cls (evE cfg m env S) ρ H (fun d _ ρ' H' => ∀ v, Rep K ρ' H' d v → Q v H') (ExX ad K fun c d J => W c d σ J)
def tEs (ad : Ad) (K : KF) (cfg : Cfg) (W : WX) (m : Es) : TA := fun σ H Q =>
  ∃ ρ S env, SR K ad.cls ρ S H ∧ Sig K ρ H env σ ∧ Out K ad.cls (evEs cfg m env S) ρ H (fun d _ ρ' H' => ∀ v, Reps K ρ' H' d v → Q v H') (ExX ad K fun c d J => W c d σ J)
def tEo (ad : Ad) (K : KF) (cfg : Cfg) (W : WX) (m : Eo) : TO := fun σ H Q =>
  ∃ ρ S env, SR K ad.cls ρ S H ∧ Sig K ρ H env σ ∧ Out K ad.cls (evEo cfg m env S) ρ H (fun d _ ρ' H' => Q d H') (ExX ad K fun c d J => W c d σ J)
/-- as a test -/
def tT (ad : Ad) (K : KF) (cfg : Cfg) (W : WX) (m : E) : TT := fun σ H Q => tE ad K cfg W m σ H fun v J => ∃ b, v = .bl b ∧ Q b J

theorem _root_.L2.PE.imp {e : Expr} {t t' : TE} (h : PE X e t) (i : ∀ σ H Q, t' σ H Q → t σ H Q) : PE X e t' := ⟨fun pins s σ H Q I q => h.run pins s σ H Q I (i σ H Q q)⟩
theorem _root_.L2.PT.imp {e : Expr} {t t' : TT} (h : PT X e t) (i : ∀ σ H Q, t' σ H Q → t σ H Q) : PT X e t' := ⟨fun pins s σ H Q I q => h.run pins s σ H Q I (i σ H Q q)⟩
theorem _root_.L2.PW.imp {e : Expr} {t t' : TT} (h : PW X e t) (i : ∀ σ H Q, t' σ H Q → t σ H Q) : PW X e t' := ⟨fun w pins s σ H Q I q => h.run w pins s σ H Q I (i σ H Q q)⟩
theorem _root_.L2.PA.imp {e : List Expr} {t t' : TA} (h : PA X e t) (i : ∀ σ H Q, t' σ H Q → t σ H Q) : PA X e t' := ⟨fun p pins s σ H Q I q => h.run p pins s σ H Q I (i σ H Q q)⟩
theorem _root_.L2.PO.imp {e : Option Expr} {t t' : TO} (h : PO X e t) (i : ∀ σ H Q, t' σ H Q → t σ H Q) : PO X e t' := ⟨fun pins s σ H Q I q => h.run pins s σ H Q I (i σ H Q q)⟩
theorem _root_.L2.PS.imp {e : Stmt} {t t' : TS} (h : PS X e t) (i : ∀ D σ H, t' D σ H → t D σ H) : PS X e t' := ⟨fun pins s σ H D I q => h.run pins s σ H D I (i D σ H q)⟩
theorem _root_.L2.PSs.imp {e : List Stmt} {t t' : TS} (h : PSs X e t) (i : ∀ D σ H, t' D σ H → t D σ H) : PSs X e t' := ⟨fun pins s σ H D I q => h.run pins s σ H D I (i D σ H q)⟩

variable {K : KF} {ρ : List Addr} {S : Sto} {env : Env} {σ : L2.St} {H : Hp}
/-- a part of an expression, then the rest -/
theorem tE_bind {β : Type} {m : E} {f : D → Sto → R β} {Q : β → Sto → List Addr → Hp → Prop} {Q1 : VK} {XX : Nat → D → Sto → List Addr → Hp → Prop}
    (sr : SR K ad.cls ρ S H) (sg : Sig K ρ H env σ) (h : Out K ad.cls ((evE cfg m env S).bind f) ρ H Q XX)
    (hX : ∀ c d S ρ' H', XX c d S ρ' H' → ExX ad K (fun c d J => W c d σ J) c d S ρ' H')
    (next : ∀ d S1 ρ1 H1 v, Ext ρ H ρ1 H1 → SR K ad.cls ρ1 S1 H1 → Sig K ρ1 H1 env σ → Rep K ρ1 H1 d v → Out K ad.cls (f d S1) ρ1 H1 Q XX → Q1 v H1) : tE ad K cfg W m σ H Q1 :=
  ⟨ρ, S, env, sr, sg, (Out.bind h).mono (fun d S1 ρ1 H1 x s o v r => next d S1 ρ1 H1 v x s (sg.ext x sr) r o) fun c d S ρ' H' _ _ e => hX c d S ρ' H' e⟩
theorem tEs_bind {β : Type} {m : Es} {f : List D → Sto → R β} {Q : β → Sto → List Addr → Hp → Prop} {Q1 : List V → Hp → Prop} {XX : Nat → D → Sto → List Addr → Hp → Prop}
    (sr : SR K ad.cls ρ S H) (sg : Sig K ρ H env σ) (h : Out K ad.cls ((evEs cfg m env S).bind f) ρ H Q XX)
    (hX : ∀ c d S ρ' H', XX c d S ρ' H' → ExX ad K (fun c d J => W c d σ J) c d S ρ' H')
    (next : ∀ d S1 ρ1 H1 v, Ext ρ H ρ1 H1 → SR K ad.cls ρ1 S1 H1 → Sig K ρ1 H1 env σ → Reps K ρ1 H1 d v → Out K ad.cls (f d S1) ρ1 H1 Q XX → Q1 v H1) : tEs ad K cfg W m σ H Q1 :=
  ⟨ρ, S, env, sr, sg, (Out.bind h).mono (fun d S1 ρ1 H1 x s o v r => next d S1 ρ1 H1 v x s (sg.ext x sr) r o) fun c d S ρ' H' _ _ e => hX c d S ρ' H' e⟩
theorem tEo_bind {β : Type} {m : Eo} {f : Option Int → Sto → R β} {Q : β → Sto → List Addr → Hp → Prop} {Q1 : Option Int → Hp → Prop} {XX : Nat → D → Sto → List Addr → Hp → Prop}
    (sr : SR K ad.cls ρ S H) (sg : Sig K ρ H env σ) (h : Out K ad.cls ((evEo cfg m env S).bind f) ρ H Q XX)
    (hX : ∀ c d S ρ' H', XX c d S ρ' H' → ExX ad K (fun c d J => W c d σ J) c d S ρ' H')
    (next : ∀ d S1 ρ1 H1, Ext ρ H ρ1 H1 → SR K ad.cls ρ1 S1 H1 → Sig K ρ1 H1 env σ → Out K ad.cls (f d S1) ρ1 H1 Q XX → Q1 d H1) : tEo ad K cfg W m σ H Q1 :=
  ⟨ρ, S, env, sr, sg, (Out.bind h).mono (fun d S1 ρ1 H1 x s o => next d S1 ρ1 H1 x s (sg.ext x sr) o) fun c d S ρ' H' _ _ e => hX c d S ρ' H' e⟩
theorem out_rOpt {α : Type} {o : Option α} {Q : α → Sto → List Addr → Hp → Prop} {XX : Nat → D → Sto → List Addr → Hp → Prop} (h : Out K ad.cls (rOpt S o) ρ H Q XX) :
    ∃ a, o = some a ∧ ∀ ρ' H', Ext ρ H ρ' H' → SR K ad.cls ρ' S H' → Q a S ρ' H' := by
  cases o with
  | none => exact False.elim h
  | some a => exact ⟨a, rfl, h⟩

/-! ### names, constants -/
theorem pe_E_var {i : Nat} {e : Expr} {sc : Scope} (g : Gd T N ad cfg kd k X W) (hs : X.env.scope = sc) (h : chE T N sc (.var i) e = true) : PE X e (tE ad ⟨X.K, kd⟩ cfg W (.var i)) := by
  cases e <;> simp only [chE, Bool.and_eq_true, decide_eq_true_eq, Bool.false_eq_true] at h
  obtain ⟨⟨h1, h2⟩, h3⟩ := h
  refine (pe_var (i := i) (by rw [g.hN]; exact h1) (by rw [hs]; exact vis_of h2) (nmOk_d h3) (nmOk_c h3)).imp fun σ H Q ⟨ρ, S, env, sr, sg, o⟩ => ?_
  unfold evE at o
  split at o
  · rename_i d hd
    obtain ⟨v, e1, r⟩ := sg.at_ i d hd
    exact ⟨v, e1, o ρ H Ext.refl sr v r⟩
  · exact False.elim o
theorem pe_E_non {e : Expr} {sc : Scope} (h : chE T N sc .non e = true) : PE X e (tE ad ⟨X.K, kd⟩ cfg W .non) := by
  cases e with
  | Constant c j p =>
    cases c <;> simp only [chE, Bool.false_eq_true] at h
    exact pe_non.imp fun σ H Q ⟨ρ, S, env, sr, sg, o⟩ => o ρ H Ext.refl sr _ rep_non
  | _ => simp only [chE, Bool.false_eq_true] at h
theorem pe_E_bl {b : Bool} {e : Expr} {sc : Scope} (h : chE T N sc (.bl b) e = true) : PE X e (tE ad ⟨X.K, kd⟩ cfg W (.bl b)) := by
  cases e with
  | Constant c j p =>
    cases c <;> simp only [chE, Bool.false_eq_true, beq_iff_eq] at h
    subst h
    exact pe_bl.imp fun σ H Q ⟨ρ, S, env, sr, sg, o⟩ => o ρ H Ext.refl sr _ rep_bl
  | _ => simp only [chE, Bool.false_eq_true] at h
theorem pe_E_int {b : Int} {e : Expr} {sc : Scope} (h : chE T N sc (.int b) e = true) : PE X e (tE ad ⟨X.K, kd⟩ cfg W (.int b)) := by
  cases e with
  | Constant c j p =>
    cases c <;> simp only [chE, Bool.false_eq_true, beq_iff_eq] at h
    subst h
    exact pe_int.imp fun σ H Q ⟨ρ, S, env, sr, sg, o⟩ => o ρ H Ext.refl sr _ rep_int
  | _ => simp only [chE, Bool.false_eq_true] at h
theorem pe_E_str {b : Str} {e : Expr} {sc : Scope} (h : chE T N sc (.str b) e = true) : PE X e (tE ad ⟨X.K, kd⟩ cfg W (.str b)) := by
  cases e with
  | Constant c j p =>
    cases c <;> simp only [chE, Bool.false_eq_true, beq_iff_eq] at h
    subst h
    exact pe_str.imp fun σ H Q ⟨ρ, S, env, sr, sg, o⟩ => o ρ H Ext.refl sr _ rep_str
  | _ => simp only [chE, Bool.false_eq_true] at h
theorem isB_of {sc : Scope} {x : Str} {q : NameKind} (h : isB sc x q = true) : sc.names.lookup x = some q := by
  unfold isB at h; exact of_decide_eq_true h
theorem gl_of {x : Str} {sc : Scope} (hs : X.env.scope = sc) (h : isB sc x .globalImplicit = true) : Gl X x := by
  have := isB_of h
  rw [← hs] at this
  exact this
theorem pe_E_glb {i : Nat} {e : Expr} {sc : Scope} (g : Gd T N ad cfg kd k X W) (hs : X.env.scope = sc) (h : chE T N sc (.glb i) e = true) : PE X e (tE ad ⟨X.K, kd⟩ cfg W (.glb i)) := by
  cases e <;> simp only [chE, Bool.and_eq_true, decide_eq_true_eq, Bool.false_eq_true] at h
  obtain ⟨⟨h1, h2⟩, h3⟩ := h
  obtain ⟨u, v, hm, rv, rep⟩ := g.fx.gls _ _ h1
  exact (pe_glob (gl_of hs h2) hm rv (nmOk_d h3)).imp fun σ H Q ⟨ρ, S, env, sr, sg, o⟩ => o ρ H Ext.refl sr _ (rep kd.ex ρ H)
end
end MP

set_option linter.all false
set_option maxRecDepth 100000
set_option maxHeartbeats 4000000
/-! MiniPy, 10: composite expressions. -/
namespace MP
open PySem PySem.Spec PyProof.Rows L2

/-- an expression's law -/
def HE (T : Tab) (N : List Str) (ad : Ad) (cfg : Cfg) (kd : KD) (k : Nat) (m : E) : Prop :=
  ∀ {X : Cx} {W : WX} {sc : Scope} {e : Expr}, Gd T N ad cfg kd k X W → X.env.scope = sc → chE T N sc m e = true → PE X e (tE ad ⟨X.K, kd⟩ cfg W m)
def HA (T : Tab) (N : List Str) (ad : Ad) (cfg : Cfg) (kd : KD) (k : Nat) (m : Es) : Prop :=
  ∀ {X : Cx} {W : WX} {sc : Scope} {e : List Expr}, Gd T N ad cfg kd k X W → X.env.scope = sc → chEs T N sc m e = true → PA X e (tEs ad ⟨X.K, kd⟩ cfg W m) ∧ e.all noStar = true
def HO (T : Tab) (N : List Str) (ad : Ad) (cfg : Cfg) (kd : KD) (k : Nat) (m : Eo) : Prop :=
  ∀ {X : Cx} {W : WX} {sc : Scope} {e : Option Expr}, Gd T N ad cfg kd k X W → X.env.scope = sc → chEo T N sc m e = true → PO X e (tEo ad ⟨X.K, kd⟩ cfg W m)
/-- a test's law -/
def HT (T : Tab) (N : List Str) (ad : Ad) (cfg : Cfg) (kd : KD) (k : Nat) (m : E) : Prop :=
  ∀ {X : Cx} {W : WX} {sc : Scope} {e : Expr}, Gd T N ad cfg kd k X W → X.env.scope = sc → chE T N sc m e = true → tOk m e = true →
    PT X e (tT ad ⟨X.K, kd⟩ cfg W m) ∧ ((∃ o l p, e = .BoolOp o l p) → PW X e (tT ad ⟨X.K, kd⟩ cfg W m))
section
variable {T : Tab} {N : List Str} {ad : Ad} {cfg : Cfg} {kd : KD} {k : Nat}

theorem op_of {o : BO} {op : Operator} (h : boB o op = true) : op = bop o := by
  cases o <;> cases op <;> first | rfl | (simp [boB] at h)
theorem he_bin {o : BO} {a b : E} (ha : HE T N ad cfg kd k a) (hb : HE T N ad cfg kd k b) : HE T N ad cfg kd k (.bin o a b) := by
  intro X W sc e g hs h
  cases e <;> simp only [chE, Bool.and_eq_true, Bool.false_eq_true] at h
  obtain ⟨⟨h1, h2⟩, h3⟩ := h
  rw [op_of h1]
  refine (pe_op (op_b (kd := kd) (cls := ad.cls) o) (ha g hs h2) (hb g hs h3)).imp fun σ H Q ⟨ρ, S, env, sr, sg, out⟩ => ?_
  unfold evE at out
  refine tE_bind sr sg out (fun _ _ _ _ _ h => h) fun d1 S1 ρ1 H1 v1 x1 s1 g1 r1 o1 => ?_
  refine tE_bind s1 g1 o1 (fun _ _ _ _ _ h => h) fun d2 S2 ρ2 H2 v2 x2 s2 g2 r2 o2 => ?_
  obtain ⟨d, hd, q⟩ := out_rOpt o2
  exact ⟨ρ2, S2, d1, d2, d, s2, r1.ext x2 s1, r2, hd, fun ρ' H' v x' s' r' => q ρ' H' x' s' v r'⟩
theorem he_neg {a : E} (ha : HE T N ad cfg kd k a) : HE T N ad cfg kd k (.neg a) := by
  intro X W sc e g hs h
  cases e with
  | UnaryOp op x pos =>
    cases op <;> simp only [chE, Bool.false_eq_true] at h
    refine (pe_un un_neg (ha g hs h)).imp fun σ H Q ⟨ρ, S, env, sr, sg, out⟩ => ?_
    unfold evE at out
    refine tE_bind sr sg out (fun _ _ _ _ _ h => h) fun d1 S1 ρ1 H1 v1 x1 s1 g1 r1 o1 => ?_
    obtain ⟨d, hd, q⟩ := out_rOpt o1
    cases d1 <;> simp [evNeg] at hd
    subst hd
    have e1 := rep_int_of r1
    subst e1
    exact ⟨_, rfl, q ρ1 H1 Ext.refl s1 _ rep_int⟩
  | _ => simp only [chE, Bool.false_eq_true] at h
theorem rep_bl_of' {K : KF} {ρ : List Addr} {H : Hp} {b : Bool} {v : V} (h : Rep K ρ H (.bl b) v) : v = .bl b := by unfold Rep at h; exact h
theorem he_no {a : E} (ha : HE T N ad cfg kd k a) : HE T N ad cfg kd k (.no a) := by
  intro X W sc e g hs h
  cases e with
  | UnaryOp op x pos =>
    cases op <;> simp only [chE, Bool.false_eq_true] at h
    refine (pe_not (ha g hs h)).imp fun σ H Q ⟨ρ, S, env, sr, sg, out⟩ => ?_
    unfold evE at out
    refine tE_bind sr sg out (fun _ _ _ _ _ h => h) fun d1 S1 ρ1 H1 v1 x1 s1 g1 r1 o1 => ?_
    cases d1 <;> simp only [Out] at o1
    have e1 := rep_bl_of' r1
    subst e1
    exact ⟨_, rfl, o1 ρ1 H1 Ext.refl s1 _ rep_bl⟩
  | _ => simp only [chE, Bool.false_eq_true] at h
theorem cmp_tail {K : KF} {o : CO} {S2 : Sto} {d1 d2 : D} {β : Type} {f : Bool → Sto → R β} {ρ : List Addr} {H : Hp} {Q : β → Sto → List Addr → Hp → Prop} {XX : Nat → D → Sto → List Addr → Hp → Prop}
    (h : Out K ad.cls ((rOpt S2 (evCmp o S2 d1 d2)).bind f) ρ H Q XX) : ∃ b, evCmp o S2 d1 d2 = some b ∧ ∀ ρ' H', Ext ρ H ρ' H' → SR K ad.cls ρ' S2 H' → Out K ad.cls (f b S2) ρ' H' Q XX := by
  cases q : evCmp o S2 d1 d2 with
  | none => rw [q] at h; exact False.elim h
  | some b => rw [q] at h; exact ⟨b, rfl, fun ρ' H' x _ => Out.at_ (show Out K ad.cls (f b S2) ρ H Q XX from h) x⟩
theorem cmp_t {X : Cx} {W : WX} {o : CO} {a b : E} {σ : L2.St} {H : Hp} {Q : VK} (h : tE ad ⟨X.K, kd⟩ cfg W (.cmp o a b) σ H Q) :
    tOp (r2 ⟨X.K, kd⟩ ad.cls (evCmpD o)) (tE ad ⟨X.K, kd⟩ cfg W a) (tE ad ⟨X.K, kd⟩ cfg W b) σ H Q := by
  obtain ⟨ρ, S, env, sr, sg, out⟩ := h
  unfold evE at out
  refine tE_bind sr sg out (fun _ _ _ _ _ h => h) fun d1 S1 ρ1 H1 v1 x1 s1 g1 r1 o1 => ?_
  refine tE_bind s1 g1 o1 (fun _ _ _ _ _ h => h) fun d2 S2 ρ2 H2 v2 x2 s2 g2 r2 o2 => ?_
  obtain ⟨b, hd, q⟩ := cmp_tail o2
  exact ⟨ρ2, S2, d1, d2, .bl b, s2, r1.ext x2 s1, r2, by unfold evCmpD; rw [hd]; rfl, fun ρ' H' v x' s' r' => q ρ' H' x' s' ρ' H' Ext.refl s' v r'⟩
theorem he_cmp {o : CO} {a b : E} (ha : HE T N ad cfg kd k a) (hb : HE T N ad cfg kd k b) : HE T N ad cfg kd k (.cmp o a b) := by
  intro X W sc e g hs h
  cases e <;> try (simp only [chE, Bool.false_eq_true] at h)
  rename_i x ops ys pos
  rcases ops with _ | ⟨op, _ | ⟨_, _⟩⟩ <;> rcases ys with _ | ⟨y, _ | ⟨_, _⟩⟩ <;> first | exact Bool.noConfusion (show false = true from h) | simp only [chE, Bool.and_eq_true] at h
  obtain ⟨⟨⟨h1, h2⟩, h3⟩, h4⟩ := h
  rw [cop_of h1]
  exact (pe_cmpR (op_c (cls := ad.cls) g.hu g.fx.dts o) (ha g hs h2) (hb g hs h3) (behind_of' h4)).imp fun σ H Q h => cmp_t h
theorem ht_cmp {o : CO} {a b : E} (ha : HE T N ad cfg kd k a) (hb : HE T N ad cfg kd k b) : HT T N ad cfg kd k (.cmp o a b) := by
  intro X W sc e g hs h hto
  cases e <;> try (simp only [chE, Bool.false_eq_true] at h)
  rename_i x ops ys pos
  rcases ops with _ | ⟨op, _ | ⟨_, _⟩⟩ <;> rcases ys with _ | ⟨y, _ | ⟨_, _⟩⟩ <;> first | exact Bool.noConfusion (show false = true from h) | simp only [chE, Bool.and_eq_true] at h
  obtain ⟨⟨⟨h1, h2⟩, h3⟩, h4⟩ := h
  rw [cop_of h1]
  refine ⟨(pt_cmpR (op_c (cls := ad.cls) g.hu g.fx.dts o) (ha g hs h2) (hb g hs h3) (behind_of' h4)).imp fun σ H Q h => cmp_t h, ?_⟩
  rintro ⟨_, _, _, h⟩; cases h
theorem chain_t {X : Cx} {W : WX} {o p : CO} {a b c : E} {σ : L2.St} {H : Hp} {Q : VK} (h : tE ad ⟨X.K, kd⟩ cfg W (.chain o p a b c) σ H Q) :
    tChain (r2 ⟨X.K, kd⟩ ad.cls (evCmpD o)) (r2 ⟨X.K, kd⟩ ad.cls (evCmpD p)) (tE ad ⟨X.K, kd⟩ cfg W a) (tE ad ⟨X.K, kd⟩ cfg W b) (tE ad ⟨X.K, kd⟩ cfg W c) σ H Q := by
  obtain ⟨ρ, S, env, sr, sg, out⟩ := h
  unfold evE at out
  refine tE_bind sr sg out (fun _ _ _ _ _ h => h) fun d1 S1 ρ1 H1 v1 x1 s1 g1 r1 o1 => ?_
  refine tE_bind s1 g1 o1 (fun _ _ _ _ _ h => h) fun d2 S2 ρ2 H2 v2 x2 s2 g2 r2 o2 => ?_
  obtain ⟨b1, hd, q⟩ := cmp_tail o2
  refine ⟨ρ2, S2, d1, d2, .bl b1, s2, r1.ext x2 s1, r2, by unfold evCmpD; rw [hd]; rfl, fun ρ' H' v x' s' r' => ⟨b1, rep_bl_of' r', ?_⟩⟩
  have q := q ρ' H' x' s'
  cases b1 with
  | false => exact q ρ' H' Ext.refl s' _ rep_bl
  | true =>
    refine tE_bind s' (g2.ext x' s2) q (fun _ _ _ _ _ h => h) fun d3 S3 ρ3 H3 v3 x3 s3 g3 r3 o3 => ?_
    obtain ⟨b2, hd2, q2⟩ := cmp_tail o3
    exact ⟨ρ3, S3, d2, d3, .bl b2, s3, (r2.ext x' s2).ext x3 s', r3, by unfold evCmpD; rw [hd2]; rfl, fun ρ' H' v x' s' r' => q2 ρ' H' x' s' ρ' H' Ext.refl s' v r'⟩
theorem he_chain {o p : CO} {a b c : E} (ha : HE T N ad cfg kd k a) (hb : HE T N ad cfg kd k b) (hc : HE T N ad cfg kd k c) : HE T N ad cfg kd k (.chain o p a b c) := by
  intro X W sc e g hs h
  cases e <;> try (simp only [chE, Bool.false_eq_true] at h)
  rename_i x ops ys pos
  rcases ops with _ | ⟨op, _ | ⟨op', _ | ⟨_, _⟩⟩⟩ <;> rcases ys with _ | ⟨y, _ | ⟨z, _ | ⟨_, _⟩⟩⟩ <;> first | exact Bool.noConfusion (show false = true from h) | simp only [chE, Bool.and_eq_true] at h
  obtain ⟨⟨⟨⟨⟨h1, h1'⟩, h2⟩, h3⟩, h5⟩, h4⟩ := h
  rw [cop_of h1, cop_of h1']
  refine (pe_chain (op_c (cls := ad.cls) g.hu g.fx.dts o) (op_c (cls := ad.cls) g.hu g.fx.dts p) (ha g hs h2) (hb g hs h3) (hc g hs h5) ?_).imp fun σ H Q h => chain_t h
  cases z <;> first | rfl | cases h4
theorem ht_chain {o p : CO} {a b c : E} (ha : HE T N ad cfg kd k a) (hb : HE T N ad cfg kd k b) (hc : HE T N ad cfg kd k c) : HT T N ad cfg kd k (.chain o p a b c) := by
  intro X W sc e g hs h hto
  cases e <;> try (simp only [chE, Bool.false_eq_true] at h)
  rename_i x ops ys pos
  rcases ops with _ | ⟨op, _ | ⟨op', _ | ⟨_, _⟩⟩⟩ <;> rcases ys with _ | ⟨y, _ | ⟨z, _ | ⟨_, _⟩⟩⟩ <;> first | exact Bool.noConfusion (show false = true from h) | simp only [chE, Bool.and_eq_true] at h
  obtain ⟨⟨⟨⟨⟨h1, h1'⟩, h2⟩, h3⟩, h5⟩, h4⟩ := h
  rw [cop_of h1, cop_of h1']
  refine ⟨(pt_chain (op_c (cls := ad.cls) g.hu g.fx.dts o) (op_c (cls := ad.cls) g.hu g.fx.dts p) (ha g hs h2) (hb g hs h3) (hc g hs h5) ?_).imp fun σ H Q h => chain_t h, ?_⟩
  · cases z <;> first | rfl | cases h4
  · rintro ⟨_, _, _, h⟩; cases h
end
end MP

set_option linter.all false
set_option maxRecDepth 100000
set_option maxHeartbeats 4000000
/-! MiniPy, 11: tests, and, or. -/
namespace MP
open PySem PySem.Spec PyProof.Rows L2
section
variable {T : Tab} {N : List Str} {ad : Ad} {cfg : Cfg} {kd : KD} {k : Nat}

theorem ch_and {sc : Scope} {a b : E} {e : Expr} (h : chE T N sc (.and a b) e = true) :
    ∃ x y r pos, e = .BoolOp .And (x :: y :: r) pos ∧ chE T N sc a x = true ∧ ((r = [] ∧ chE T N sc b y = true) ∨ (r ≠ [] ∧ chE T N sc b (.BoolOp .And (y :: r) pos) = true)) := by
  cases e <;> try exact Bool.noConfusion (show false = true from h)
  rename_i op vs pos
  cases op <;> rcases vs with _ | ⟨x, _ | ⟨y, r⟩⟩ <;> try exact Bool.noConfusion (show false = true from h)
  cases r with
  | nil =>
    simp only [chE, Bool.and_eq_true] at h
    exact ⟨x, y, [], pos, rfl, h.1, .inl ⟨rfl, h.2⟩⟩
  | cons z r =>
    simp only [chE, Bool.and_eq_true] at h
    exact ⟨x, y, z :: r, pos, rfl, h.1, .inr ⟨by simp, h.2⟩⟩
theorem ch_or {sc : Scope} {a b : E} {e : Expr} (h : chE T N sc (.or a b) e = true) :
    ∃ x y r pos, e = .BoolOp .Or (x :: y :: r) pos ∧ chE T N sc a x = true ∧ ((r = [] ∧ chE T N sc b y = true) ∨ (r ≠ [] ∧ chE T N sc b (.BoolOp .Or (y :: r) pos) = true)) := by
  cases e <;> try exact Bool.noConfusion (show false = true from h)
  rename_i op vs pos
  cases op <;> rcases vs with _ | ⟨x, _ | ⟨y, r⟩⟩ <;> try exact Bool.noConfusion (show false = true from h)
  cases r with
  | nil =>
    simp only [chE, Bool.and_eq_true] at h
    exact ⟨x, y, [], pos, rfl, h.1, .inl ⟨rfl, h.2⟩⟩
  | cons z r =>
    simp only [chE, Bool.and_eq_true] at h
    exact ⟨x, y, z :: r, pos, rfl, h.1, .inr ⟨by simp, h.2⟩⟩
theorem and_t {K : KF} {W : WX} {a b : E} {σ : L2.St} {H : Hp} {Q : VK} (h : tE ad K cfg W (.and a b) σ H Q) : tAndV (tE ad K cfg W a) (tE ad K cfg W b) σ H Q := by
  obtain ⟨ρ, S, env, sr, sg, out⟩ := h
  unfold evE at out
  refine tE_bind sr sg out (fun _ _ _ _ _ h => h) fun d1 S1 ρ1 H1 v1 x1 s1 g1 r1 o1 => ?_
  cases d1 with
  | bl c =>
    have e1 := rep_bl_of' r1
    subst e1
    refine ⟨c, rfl, ?_⟩
    cases c with
    | true => exact ⟨ρ1, S1, env, s1, g1, o1⟩
    | false => exact o1 ρ1 H1 Ext.refl s1 _ rep_bl
  | _ => exact False.elim o1
theorem or_t {K : KF} {W : WX} {a b : E} {σ : L2.St} {H : Hp} {Q : VK} (h : tE ad K cfg W (.or a b) σ H Q) : tOrV (tE ad K cfg W a) (tE ad K cfg W b) σ H Q := by
  obtain ⟨ρ, S, env, sr, sg, out⟩ := h
  unfold evE at out
  refine tE_bind sr sg out (fun _ _ _ _ _ h => h) fun d1 S1 ρ1 H1 v1 x1 s1 g1 r1 o1 => ?_
  cases d1 with
  | bl c =>
    have e1 := rep_bl_of' r1
    subst e1
    refine ⟨c, rfl, ?_⟩
    cases c with
    | false => exact ⟨ρ1, S1, env, s1, g1, o1⟩
    | true => exact o1 ρ1 H1 Ext.refl s1 _ rep_bl
  | _ => exact False.elim o1
theorem he_and {a b : E} (ha : HE T N ad cfg kd k a) (hb : HE T N ad cfg kd k b) : HE T N ad cfg kd k (.and a b) := by
  intro X W sc e g hs h
  obtain ⟨x, y, r, pos, rfl, h1, h2⟩ := ch_and h
  have hb' : PE X (.BoolOp .And (y :: r) pos) (tE ad ⟨X.K, kd⟩ cfg W b) := by
    rcases h2 with ⟨rfl, h2⟩ | ⟨_, h2⟩
    · exact pe_one (hb g hs h2)
    · exact hb g hs h2
  exact (pe_and (ha g hs h1) hb').imp fun σ H Q h => and_t h
theorem he_or {a b : E} (ha : HE T N ad cfg kd k a) (hb : HE T N ad cfg kd k b) : HE T N ad cfg kd k (.or a b) := by
  intro X W sc e g hs h
  obtain ⟨x, y, r, pos, rfl, h1, h2⟩ := ch_or h
  have hb' : PE X (.BoolOp .Or (y :: r) pos) (tE ad ⟨X.K, kd⟩ cfg W b) := by
    rcases h2 with ⟨rfl, h2⟩ | ⟨_, h2⟩
    · exact pe_one (hb g hs h2)
    · exact hb g hs h2
  exact (pe_or (ha g hs h1) hb').imp fun σ H Q h => or_t h
theorem tok_and {a b : E} {x y : Expr} {r : List Expr} {o : PySem.BoolOp} {pos : Pos} (h : tOk (.and a b) (.BoolOp o (x :: y :: r) pos) = true) : tOk a x = true ∧ (r = [] → tOk b y = true) ∧ (r ≠ [] → tOk b (.BoolOp o (y :: r) pos) = true) := by
  cases r with
  | nil => simp only [tOk, Bool.and_eq_true] at h; exact ⟨h.1, fun _ => h.2, fun q => absurd rfl q⟩
  | cons z r => simp only [tOk, Bool.and_eq_true] at h; exact ⟨h.1, nofun, fun _ => h.2⟩
theorem tok_or {a b : E} {x y : Expr} {r : List Expr} {o : PySem.BoolOp} {pos : Pos} (h : tOk (.or a b) (.BoolOp o (x :: y :: r) pos) = true) : tOk a x = true ∧ (r = [] → tOk b y = true) ∧ (r ≠ [] → tOk b (.BoolOp o (y :: r) pos) = true) := by
  cases r with
  | nil => simp only [tOk, Bool.and_eq_true] at h; exact ⟨h.1, fun _ => h.2, fun q => absurd rfl q⟩
  | cons z r => simp only [tOk, Bool.and_eq_true] at h; exact ⟨h.1, nofun, fun _ => h.2⟩
theorem tT_at {K : KF} {W : WX} {m : E} {ρ : List Addr} {S : Sto} {env : Env} {σ : L2.St} {H : Hp} {Q : Bool → Hp → Prop} (sr : SR K ad.cls ρ S H) (sg : Sig K ρ H env σ)
    (h : Out K ad.cls (evE cfg m env S) ρ H (fun d _ ρ' H' => ∀ v, Rep K ρ' H' d v → ∃ b, v = .bl b ∧ Q b H') (ExX ad K fun c d J => W c d σ J)) : tT ad K cfg W m σ H Q := ⟨ρ, S, env, sr, sg, h⟩
theorem and_tt {K : KF} {W : WX} {a b : E} {σ : L2.St} {H : Hp} {Q : Bool → Hp → Prop} (h : tT ad K cfg W (.and a b) σ H Q) : tAnd (tT ad K cfg W a) (tT ad K cfg W b) σ H Q := by
  obtain ⟨ρ, S, env, sr, sg, out⟩ := h
  unfold evE at out
  refine tE_bind sr sg out (fun _ _ _ _ _ h => h) fun d1 S1 ρ1 H1 v1 x1 s1 g1 r1 o1 => ?_
  cases d1 with
  | bl c =>
    have e1 := rep_bl_of' r1
    subst e1
    refine ⟨c, rfl, ?_⟩
    cases c with
    | true => exact ⟨ρ1, S1, env, s1, g1, o1⟩
    | false =>
      obtain ⟨b, e, q⟩ := o1 ρ1 H1 Ext.refl s1 _ rep_bl
      cases e
      exact q
  | _ => exact False.elim o1
theorem or_tt {K : KF} {W : WX} {a b : E} {σ : L2.St} {H : Hp} {Q : Bool → Hp → Prop} (h : tT ad K cfg W (.or a b) σ H Q) : tOr (tT ad K cfg W a) (tT ad K cfg W b) σ H Q := by
  obtain ⟨ρ, S, env, sr, sg, out⟩ := h
  unfold evE at out
  refine tE_bind sr sg out (fun _ _ _ _ _ h => h) fun d1 S1 ρ1 H1 v1 x1 s1 g1 r1 o1 => ?_
  cases d1 with
  | bl c =>
    have e1 := rep_bl_of' r1
    subst e1
    refine ⟨c, rfl, ?_⟩
    cases c with
    | false => exact ⟨ρ1, S1, env, s1, g1, o1⟩
    | true =>
      obtain ⟨b, e, q⟩ := o1 ρ1 H1 Ext.refl s1 _ rep_bl
      cases e
      exact q
  | _ => exact False.elim o1
theorem isBo {y : Expr} {r : List Expr} {o : PySem.BoolOp} {pos : Pos} : ∃ o' l p, Expr.BoolOp o (y :: r) pos = .BoolOp o' l p := ⟨_, _, _, rfl⟩
theorem ht_and {a b : E} (ha : HT T N ad cfg kd k a) (hb : HT T N ad cfg kd k b) : HT T N ad cfg kd k (.and a b) := by
  intro X W sc e g hs h hto
  obtain ⟨x, y, r, pos, rfl, h1, h2⟩ := ch_and h
  obtain ⟨t1, t2, t3⟩ := tok_and hto
  have hb' : PW X (.BoolOp .And (y :: r) pos) (tT ad ⟨X.K, kd⟩ cfg W b) := by
    rcases h2 with ⟨rfl, h2⟩ | ⟨q, h2⟩
    · exact pw_and1 (hb g hs h2 (t2 rfl)).1
    · exact (hb g hs h2 (t3 q)).2 isBo
  have := (pw_and (ha g hs h1 t1).1 hb').imp fun σ H Q h => and_tt h
  exact ⟨this.pt, fun _ => this⟩
theorem ht_or {a b : E} (ha : HT T N ad cfg kd k a) (hb : HT T N ad cfg kd k b) : HT T N ad cfg kd k (.or a b) := by
  intro X W sc e g hs h hto
  obtain ⟨x, y, r, pos, rfl, h1, h2⟩ := ch_or h
  obtain ⟨t1, t2, t3⟩ := tok_or hto
  have hb' : PW X (.BoolOp .Or (y :: r) pos) (tT ad ⟨X.K, kd⟩ cfg W b) := by
    rcases h2 with ⟨rfl, h2⟩ | ⟨q, h2⟩
    · exact pw_or1 (hb g hs h2 (t2 rfl)).1
    · exact (hb g hs h2 (t3 q)).2 isBo
  have := (pw_or (ha g hs h1 t1).1 hb').imp fun σ H Q h => or_tt h
  exact ⟨this.pt, fun _ => this⟩
theorem ht_no {a : E} (ha : HT T N ad cfg kd k a) : HT T N ad cfg kd k (.no a) := by
  intro X W sc e g hs h hto
  cases e with
  | UnaryOp op x pos =>
    cases op <;> simp only [chE, Bool.false_eq_true] at h
    refine ⟨(pt_not (ha g hs h hto).1).imp fun σ H Q ⟨ρ, S, env, sr, sg, out⟩ => ?_, ?_⟩
    · unfold evE at out
      refine tE_bind sr sg out (fun _ _ _ _ _ h => h) fun d1 S1 ρ1 H1 v1 x1 s1 g1 r1 o1 => ?_
      cases d1 with
      | bl c =>
        have e1 := rep_bl_of' r1
        subst e1
        obtain ⟨b, e, q⟩ := o1 ρ1 H1 Ext.refl s1 _ rep_bl
        cases e
        exact ⟨c, rfl, q⟩
      | _ => exact False.elim o1
    · rintro ⟨_, _, _, h⟩; cases h
  | _ => simp only [chE, Bool.false_eq_true] at h
/-- a test that is no and, or, not, comparison, choice -/
theorem ht_val {m : E} (hm : ∀ {sc : Scope} {e : Expr}, chE T N sc m e = true → valTest e = true) (ha : HE T N ad cfg kd k m) : HT T N ad cfg kd k m := by
  intro X W sc e g hs h hto
  have hv := hm h
  refine ⟨(pt_val (ha g hs h) (isTrue_of hv)).imp fun σ H Q h => ?_, ?_⟩
  · exact h
  · rintro ⟨_, _, _, rfl⟩; cases hv
def isNon : D → Bool
  | .non => true
  | _ => false
theorem non_dec {K : KF} {ρ : List Addr} {H : Hp} {d : D} {v : V} (r : Rep K ρ H d v) : decide (v = .non) = isNon d := by
  cases d <;> unfold Rep at r
  · rw [r]; rfl
  · rw [r]; rfl
  · rw [r]; rfl
  · rw [r]; rfl
  all_goals (obtain ⟨a, rest⟩ := r)
  · obtain ⟨vs, rfl, _⟩ := rest; rfl
  · obtain ⟨vs, rfl, _⟩ := rest; rfl
  · rw [rest.1]; rfl
  · rw [rest.1]; rfl
  · rw [rest.1]; rfl
theorem isN_t {K : KF} {W : WX} {a : E} {ng : Bool} {σ : L2.St} {H : Hp} {Q : VK} (h : tE ad K cfg W (.isN ng a) σ H Q) :
    tE ad K cfg W a σ H fun v J => Q (.bl (if ng then !decide (v = .non) else decide (v = .non))) J := by
  obtain ⟨ρ, S, env, sr, sg, out⟩ := h
  unfold evE at out
  refine tE_bind sr sg out (fun _ _ _ _ _ h => h) fun d1 S1 ρ1 H1 v1 x1 s1 g1 r1 o1 => ?_
  rw [non_dec r1]
  cases d1 <;> cases ng <;> exact o1 ρ1 H1 Ext.refl s1 _ rep_bl
theorem ch_isN {sc : Scope} {a : E} {ng : Bool} {e : Expr} (h : chE T N sc (.isN ng a) e = true) : ∃ x j p pos, e = .Compare x [if ng then .IsNot else .Is] [.Constant .none j p] pos ∧ chE T N sc a x = true := by
  cases ng <;> cases e <;> try (exact Bool.noConfusion (show false = true from h))
  all_goals (
    rename_i x ops ys pos
    rcases ops with _ | ⟨op, _ | ⟨_, _⟩⟩ <;> rcases ys with _ | ⟨y, ys⟩ <;> (try (exact Bool.noConfusion (show false = true from h))) <;> cases op <;> (try (exact Bool.noConfusion (show false = true from h))) <;>
      cases y <;> (try (exact Bool.noConfusion (show false = true from h)))
    rename_i c j p
    cases c <;> (try (exact Bool.noConfusion (show false = true from h))) <;> cases ys <;> try (exact Bool.noConfusion (show false = true from h))
    exact ⟨x, j, p, pos, rfl, h⟩)
theorem he_isN {a : E} {ng : Bool} (ha : HE T N ad cfg kd k a) : HE T N ad cfg kd k (.isN ng a) := by
  intro X W sc e g hs h
  obtain ⟨x, j, p, pos, rfl, h1⟩ := ch_isN h
  cases ng with
  | true => exact (pe_cmpR op_notN (ha g hs h1) (pe_non (j := j) (pos := p)) rfl).imp fun σ H Q h => (by
      obtain ⟨ρ, S, env, sr, sg, out⟩ := isN_t h
      exact ⟨ρ, S, env, sr, sg, out.mono (fun _ _ _ _ _ _ q v r => ⟨rfl, q v r⟩) fun _ _ _ _ _ _ _ q => q⟩)
  | false => exact (pe_cmpR op_isN (ha g hs h1) (pe_non (j := j) (pos := p)) rfl).imp fun σ H Q h => (by
      obtain ⟨ρ, S, env, sr, sg, out⟩ := isN_t h
      exact ⟨ρ, S, env, sr, sg, out.mono (fun _ _ _ _ _ _ q v r => ⟨rfl, q v r⟩) fun _ _ _ _ _ _ _ q => q⟩)
theorem ht_isN {a : E} {ng : Bool} (ha : HE T N ad cfg kd k a) : HT T N ad cfg kd k (.isN ng a) := by
  intro X W sc e g hs h hto
  obtain ⟨x, j, p, pos, rfl, h1⟩ := ch_isN h
  refine ⟨?_, by rintro ⟨_, _, _, h⟩; cases h⟩
  cases ng with
  | true => exact (pt_cmpR op_notN (ha g hs h1) (pe_non (j := j) (pos := p)) rfl).imp fun σ H Q h => (by
      obtain ⟨ρ, S, env, sr, sg, out⟩ := isN_t h
      exact ⟨ρ, S, env, sr, sg, out.mono (fun _ _ _ _ _ _ q v r => ⟨rfl, q v r⟩) fun _ _ _ _ _ _ _ q => q⟩)
  | false => exact (pt_cmpR op_isN (ha g hs h1) (pe_non (j := j) (pos := p)) rfl).imp fun σ H Q h => (by
      obtain ⟨ρ, S, env, sr, sg, out⟩ := isN_t h
      exact ⟨ρ, S, env, sr, sg, out.mono (fun _ _ _ _ _ _ q v r => ⟨rfl, q v r⟩) fun _ _ _ _ _ _ _ q => q⟩)
theorem he_ife {c a b : E} (hc : HT T N ad cfg kd k c) (ha : HE T N ad cfg kd k a) (hb : HE T N ad cfg kd k b) : HE T N ad cfg kd k (.ife c a b) := by
  intro X W sc e g hs h
  cases e <;> simp only [chE, Bool.and_eq_true, Bool.false_eq_true] at h
  obtain ⟨⟨⟨h1, h4⟩, h2⟩, h3⟩ := h
  refine (pe_ifExp (hc g hs h1 h4).1 (ha g hs h2) (hb g hs h3)).imp fun σ H Q ⟨ρ, S, env, sr, sg, out⟩ => ?_
  unfold evE at out
  refine tE_bind sr sg out (fun _ _ _ _ _ h => h) fun d1 S1 ρ1 H1 v1 x1 s1 g1 r1 o1 => ?_
  cases d1 with
  | bl c =>
    refine ⟨c, rep_bl_of' r1, ?_⟩
    cases c with
    | true => exact ⟨ρ1, S1, env, s1, g1, o1⟩
    | false => exact ⟨ρ1, S1, env, s1, g1, o1⟩
  | _ => exact False.elim o1
end
end MP

set_option linter.all false
set_option maxRecDepth 100000
set_option maxHeartbeats 4000000
/-! MiniPy, 12: calls, built-ins, methods. -/
namespace MP
open PySem PySem.Spec PyProof.Rows L2

/-! ### methods of texts, of lists -/
section
variable {X : Cx} {kd : KD} {cls : Nat → Addr}
def rMe (K : KF) (cls : Nat → Addr) (m : Me) : V → List V → Hp → VK → Prop := fun x xs H Q =>
  ∃ ρ S a ds d, SR K cls ρ S H ∧ Rep K ρ H a x ∧ Reps K ρ H ds xs ∧ evMe m S a ds = some d ∧ ∀ ρ' H' v, Ext ρ H ρ' H' → SR K cls ρ' S H' → Rep K ρ' H' d v → Q v H'
theorem reps_strs {K : KF} {ρ : List Addr} {H : Hp} : ∀ (ys : List Str), Reps K ρ H (ys.map D.str) (ys.map V.str)
  | [] => by rw [List.map_nil, List.map_nil]; unfold Reps; rfl
  | y :: ys => by rw [List.map_cons, List.map_cons]; unfold Reps; exact ⟨_, _, rfl, rep_str, reps_strs ys⟩
theorem mm_join : MtR X "str.join" (rMe ⟨X.K, kd⟩ cls .join) := by
  intro pins s σ H x xs v us Q I rx rs ⟨ρ, S, a, ds, d, sr, ra, rds, e, q⟩
  unfold evMe at e
  split at e
  · rename_i a d1 _
    simp only [Option.bind_eq_some_iff] at e
    obtain ⟨ys, ⟨l, e1, e2⟩, e3⟩ := e
    split at e3
    · rename_i hz
      cases e3
      obtain ⟨y, rfl, r1⟩ := reps1 rds
      obtain ⟨p, vs, rfl, k, r2⟩ := sr.asQ r1 e1
      have := asStrs_of r2 e2
      subst this
      exact mt_join pins s σ H _ _ v us Q I rx rs ⟨a, p, ys, rep_str_of ra, rfl, k, hz, q _ _ _ Ext.refl sr rep_str⟩
    · cases e3
  · contradiction
  · contradiction
  · cases e
theorem mm_split : MtR X "str.split" (rMe ⟨X.K, kd⟩ cls .split) := by
  intro pins s σ H x xs v us Q I rx rs ⟨ρ, S, a, ds, d, sr, ra, rds, e, q⟩
  unfold evMe at e
  split at e
  · contradiction
  · rename_i a b _
    split at e
    · rename_i hz
      cases e
      obtain ⟨y, rfl, r1⟩ := reps1 rds
      have e1 := rep_str_of r1
      subst e1
      refine mt_split pins s σ H _ _ v us Q I rx rs ⟨a, b, rep_str_of ra, rfl, by rw [beq_eq_false_iff_ne]; exact hz.1, hz.2, ?_⟩
      intro p hp
      obtain ⟨x1, s1, k1⟩ := newLst sr hp (reps_strs (Txt.split a b))
      exact q _ _ _ x1 s1 k1
    · cases e
  · contradiction
  · cases e
theorem mm_partition : MtR X "str.partition" (rMe ⟨X.K, kd⟩ cls .partition) := by
  intro pins s σ H x xs v us Q I rx rs ⟨ρ, S, a, ds, d, sr, ra, rds, e, q⟩
  unfold evMe at e
  split at e
  · contradiction
  · contradiction
  · rename_i a b _
    split at e
    · rename_i hz
      cases e
      obtain ⟨y, rfl, r1⟩ := reps1 rds
      have e1 := rep_str_of r1
      subst e1
      refine mt_partition pins s σ H _ _ v us Q I rx rs ⟨a, b, rep_str_of ra, rfl, by rw [beq_eq_false_iff_ne]; exact hz.1, hz.2, ?_⟩
      intro p hp
      obtain ⟨x1, s1, k1⟩ := newTup sr hp (reps_strs [(Txt.partition a b).1, (Txt.partition a b).2.1, (Txt.partition a b).2.2])
      exact q _ _ _ x1 s1 k1
    · cases e
  · cases e
def rLm (K : KF) (cls : Nat → Addr) (m : Lm) : V → List V → Hp → VK → Prop := fun x xs H Q =>
  ∃ ρ S a ds, SR K cls ρ S H ∧ Rep K ρ H a x ∧ Reps K ρ H ds xs ∧ Out K cls (evLm m S a ds) ρ H (fun d _ ρ' H' => ∀ v, Rep K ρ' H' d v → Q v H') fun _ _ _ _ _ => False
theorem loc_at {K : KF} {cls : Nat → Addr} {ρ : List Addr} {S : Sto} {H : Hp} {n : Nat} {v : V} {xs : List D} (sr : SR K cls ρ S H) (r : Rep K ρ H (.loc n) v) (e : S[n]? = some (.lst xs)) :
    ∃ a vs, v = .ref a ∧ ρ[n]? = some a ∧ H a = some (.lst vs) ∧ Reps K ρ H xs vs := by
  unfold Rep at r
  obtain ⟨a, rfl, g⟩ := r
  obtain ⟨vs, h1, h2⟩ := sr.lst n xs a e g
  exact ⟨a, vs, rfl, g, h1, h2⟩
theorem reps_snoc {K : KF} {ρ : List Addr} {H : Hp} {ds : List D} {vs : List V} {d : D} {v : V} (h : Reps K ρ H ds vs) (r : Rep K ρ H d v) : Reps K ρ H (ds ++ [d]) (vs ++ [v]) :=
  Reps.append h (by unfold Reps; exact ⟨v, [], rfl, r, by unfold Reps; rfl⟩)
theorem reps_dropLast {K : KF} {ρ : List Addr} {H : Hp} {ds : List D} {vs : List V} (h : Reps K ρ H ds vs) : Reps K ρ H ds.dropLast vs.dropLast := by
  rw [List.dropLast_eq_take, List.dropLast_eq_take, ← Reps.len h]
  exact Reps.take _ h
theorem ml_append : MtM X "list.append" (rLm ⟨X.K, kd⟩ cls .append) := by
  intro pins s σ H x xs v us Q I rx rs ⟨ρ, S, a, ds, sr, ra, rds, o⟩
  unfold evLm at o
  split at o
  · rename_i n
    split at o
    · rename_i l hl
      split at o
      · rename_i d
        split at o
        · rename_i hz
          obtain ⟨y, rfl, r1⟩ := reps1 rds
          obtain ⟨p, vs, rfl, g, h1, h2⟩ := loc_at sr ra hl
          refine mt_append pins s σ H _ _ v us Q I rx rs ⟨p, vs, y, rfl, rfl, h1, by rw [Reps.len h2]; exact hz, ?_⟩
          exact o ρ _ (Ext.put (List.mem_of_getElem? g)) (sr.put hl g (reps_snoc h2 r1)) _ rep_non
        · exact False.elim o
      · contradiction
      · contradiction
      · exact False.elim o
    · exact False.elim o
  · exact False.elim o
theorem ml_pop : MtM X "list.pop" (rLm ⟨X.K, kd⟩ cls .pop) := by
  intro pins s σ H x xs v us Q I rx rs ⟨ρ, S, a, ds, sr, ra, rds, o⟩
  unfold evLm at o
  split at o
  · rename_i n
    split at o
    · rename_i l hl
      split at o
      · contradiction
      · split at o
        · rename_i d hd
          unfold Reps at rds
          subst rds
          obtain ⟨p, vs, rfl, g, h1, h2⟩ := loc_at sr ra hl
          obtain ⟨y, g1, r1⟩ := Reps.get h2 hd
          have x1 := Ext.put (ρ := ρ) (H := H) (o := .lst vs.dropLast) (List.mem_of_getElem? g)
          have s1 := sr.put hl g (reps_dropLast h2)
          refine mt_pop pins s σ H _ _ v us Q I rx rs ⟨p, vs, y, rfl, rfl, h1, by rw [Reps.len h2]; exact g1, ?_⟩
          exact o ρ _ x1 s1 _ (r1.ext x1 sr)
        · exact False.elim o
      · contradiction
      · exact False.elim o
    · exact False.elim o
  · exact False.elim o
theorem ml_extend : MtM X "list.extend" (rLm ⟨X.K, kd⟩ cls .extend) := by
  intro pins s σ H x xs v us Q I rx rs ⟨ρ, S, a, ds, sr, ra, rds, o⟩
  unfold evLm at o
  split at o
  · rename_i n
    split at o
    · rename_i l hl
      split at o
      · contradiction
      · contradiction
      · rename_i d
        split at o
        · rename_i ys hy
          split at o
          · rename_i hz
            obtain ⟨y, rfl, r1⟩ := reps1 rds
            obtain ⟨p, vs, rfl, g, h1, h2⟩ := loc_at sr ra hl
            obtain ⟨b, zs, rfl, h3, h4⟩ := sr.asL r1 hy
            refine mt_extend pins s σ H _ _ v us Q I rx rs ⟨p, b, vs, zs, rfl, rfl, h1, h3, by rw [Reps.len h2, Reps.len h4]; exact hz, ?_⟩
            exact o ρ _ (Ext.put (List.mem_of_getElem? g)) (sr.put hl g (Reps.append h2 h4)) _ rep_non
          · exact False.elim o
        · exact False.elim o
      · exact False.elim o
    · exact False.elim o
  · exact False.elim o
/-! ### types -/
def tyS : Ty → String
  | .int => "int" | .str => "str" | .tup => "tuple" | .bool => "bool" | .lst => "list" | .cls _ => ""
theorem tyX_T {K : PySem.W.Frag} {H : Hp} {a : Addr} {xs : List V} (h : SqT K H a xs) : TyX K H (.ref a) (.type "tuple") := by
  rcases h with (h | ⟨o, h⟩) | ⟨o, its, n, e, c, _⟩
  · exact .base (.tup h)
  · exact .fTuple h
  · exact .kTuple e c
theorem isTy_ty {K : KF} {ρ : List Addr} {S : Sto} {H : Hp} {d : D} {v : V} {t : Ty} {b : Bool} (sr : SR K cls ρ S H) (r : Rep K ρ H d v) (e : isTy S d t = some b) :
    ∃ n, TyX K.F H v (.type n) ∧ kitB n (tyS t) = some b := by
  have L : ∀ l, asL S d = some l → TyX K.F H v (.type "list") := fun l h => by
    obtain ⟨a, vs, rfl, k, _⟩ := sr.asL r h
    exact .base (.lst k)
  cases d with
  | non => unfold Rep at r; subst r; refine ⟨_, .base .non, ?_⟩; cases t <;> simp [isTy] at e <;> subst e <;> decide +kernel
  | bl x => unfold Rep at r; subst r; refine ⟨_, .base (.bl _), ?_⟩; cases t <;> simp [isTy] at e <;> subst e <;> decide +kernel
  | int x => unfold Rep at r; subst r; refine ⟨_, .base (.int _), ?_⟩; cases t <;> simp [isTy] at e <;> subst e <;> decide +kernel
  | str x => unfold Rep at r; subst r; refine ⟨_, .base (.str _), ?_⟩; cases t <;> simp [isTy] at e <;> subst e <;> decide +kernel
  | tup x =>
    obtain ⟨a, vs, rfl, k, _⟩ := rep_tup_of r
    refine ⟨_, tyX_T k, ?_⟩; cases t <;> simp [isTy] at e <;> subst e <;> decide +kernel
  | lst x => refine ⟨_, L x rfl, ?_⟩; cases t <;> simp [isTy, asL] at e <;> subst e <;> decide +kernel
  | scr x => cases t <;> simp [isTy, asL] at e
  | dct x => cases t <;> simp [isTy, asL] at e
  | loc n =>
    cases q : asL S (.loc n) with
    | none => cases t <;> simp [isTy, q] at e
    | some l => refine ⟨_, L l q, ?_⟩; cases t <;> simp [isTy, q] at e <;> subst e <;> decide +kernel
end
end MP

set_option linter.all false
set_option maxRecDepth 100000
set_option maxHeartbeats 4000000
/-! MiniPy: repr of data with ints of up to 4300 digits. -/
namespace MP
open PySem PySem.Spec PyProof.Rows L2
section
variable {prog : Program} {w : World} {A : Around} {E : Value → Shared → Prop} {s : Shared}
theorem int_reprN {a : Int} {t : Tok} {Q : Value → Shared → Prop} (hn : s.heap.NoDigits) (hlt : a.natAbs < 10 ^ 4300)
    (h : Q (.str (toString a) s.toks) { s with toks := s.toks + 1 }) : wpAny (model prog w) A (call (.builtin "int.__repr__") [.int a t]) Q E s := by
  refine wpAny_call_entry F.slot_int_repr (typeIs_int s a t) F.entry_int_repr ?_ (F.args_int_repr_1 _)
  unfold Builtin.«int.__repr__»
  show wpAny _ _ (Builtin.overDigitLimit? a >>= _) _ _ s
  refine wpAny_bind (overDigitLimit_any hn (fun _ => ?_) (fun hge => absurd hlt (Nat.not_lt.mpr hge)))
  exact wpAny_bind (wpAny_mkStr (wpAny_pure ⟨_, rfl, h⟩) (int_text_fits10 hlt))
theorem reprObjN {a : Int} {t : Tok} {Q : Value → Shared → Prop} (hn : s.heap.NoDigits) (hlt : a.natAbs < 10 ^ 4300)
    (h : Q (.str (toString a) s.toks) { s with toks := s.toks + 1 }) : wpAny (model prog w) A (pyReprObj (.int a t)) Q E s := by
  unfold pyReprObj
  have hv : ([Value.int a t].any Value.onHeap) = false := rfl
  simp only [cRoomFor, hv, Bool.false_eq_true, if_false, pure_bind]
  refine wpAny_bind (wpAny_specialOf (name := Str.ofString "__repr__") (typeIs_int s a t) F.slot_int_repr.lookup ?_)
  refine wpAny_bind (m := callSpecialIfBound? (.int a t) (Str.ofString "__repr__")) (wpAny_callSpecialIfBound?_slot (name := Str.ofString "__repr__") (typeIs_int s a t) F.slot_int_repr (int_reprN hn hlt ?_))
  exact wpAny_bind (wpAny_isInstance (T := "str") (b := true) rfl isSubtype_str_str (wpAny_pure h))
theorem repr_intN {a : Int} {t : Tok} {Q : Value → Shared → Prop} (hn : s.heap.NoDigits) (hlt : a.natAbs < 10 ^ 4300)
    (h : Q (.str (toString a) s.toks) { s with toks := s.toks + 1 }) : wpAny (model prog w) A (call (.builtin "repr") [.int a t]) Q E s := by
  refine Calls.call_function_entry F.kind_repr F.plain_repr F.entry_repr (F.args_repr1 _) ?_
  unfold Builtin.«repr»
  refine wpAny_bind (m := oneArg "repr" _) (wpAny_pure ?_)
  have hv : ([Value.int a t].any Value.onHeap) = false := rfl
  simp only [cRoomFor, hv, Bool.false_eq_true, if_false, pure_bind]
  refine wpAny_bind (wpAny_specialOf (name := Str.ofString "__repr__") (typeIs_int s a t) F.slot_int_repr.lookup ?_)
  refine wpAny_bind (m := callSpecialIfBound? (.int a t) (Str.ofString "__repr__")) (wpAny_callSpecialIfBound?_slot (name := Str.ofString "__repr__") (typeIs_int s a t) F.slot_int_repr (int_reprN hn hlt ?_))
  refine wpAny_bind (wpAny_isInstance (T := "str") (b := true) rfl isSubtype_str_str ?_)
  exact wpAny_pure ⟨_, rfl, h⟩
end
section
variable {prog : Program} {w : World} {h₀ : Heap}
theorem reprK_int {a : Int} {t : Tok} (hn : h₀.NoDigits) (hlt : a.natAbs < 10 ^ 4300) (as : List Addr) (d : Nat) : ReprK prog w as h₀ d (.int a t) (toString a) := by
  intro base hb A g E s Q _ _ _ hk hQ
  rw [pyReprUnder_leaf (v := .int a t) (by omega) (fun _ e => nomatch e)]
  unfold pyRepr
  exact wpAny_bind (reprObjN (hn.keeps hk) hlt (wpAny_pure (hQ s.heap _ fun _ _ e => e)))
mutual
theorem rk_of (hn : h₀.NoDigits) : ∀ {v : Value} {d : PyData} {as : List Addr}, Reads h₀ v d as → shOk d = true → d.shown.length ≤ sizeLine → ∃ bs, ReadAtMost h₀ d.depth bs ∧ ReprK prog w bs h₀ d.depth v d.shown
  | _, _, _, .none, _, _ => ⟨[], nofun, by simp only [PyData.shown]; exact .of_is ReprIs.none _ _ _⟩
  | _, _, _, .bool b, _, _ => ⟨[], nofun, by simp only [PyData.shown]; exact .of_is (ReprIs.bool b) _ _ _⟩
  | _, _, _, .int i t, hs, _ => ⟨[], nofun, by simp only [PyData.shown]; exact reprK_int hn (of_decide_eq_true hs) _ _⟩
  | _, _, _, .str x t, _, hz => ⟨[], nofun, by
      simp only [PyData.shown] at hz ⊢
      exact .of_is (ReprIs.str x t hz) _ _ _⟩
  | _, _, _, .list (a := a) (vs := vs) (xs := xs) h1 h2 h3 h4, hs, hz => by
    simp only [PyData.shown] at hz
    obtain ⟨bs, hb, hk⟩ := rks_of hn h4 hs (fun t ht => Nat.le_trans (listText_mem_le ht) hz)
    have r : Reads h₀ (.ref a) (.list xs) _ := .list h1 h2 h3 h4
    have hna : a ∉ bs := not_mem_of_deeper r (by rw [PyData.depth]; omega) hb
    refine ⟨a :: bs, ReadAtMost.cons r (by rw [PyData.depth]; omega) hb, ?_⟩
    rw [PyData.depth, PyData.shown]
    obtain ⟨l⟩ := vs
    cases l with
    | nil =>
      have h5 : ReadsAll h₀ [] xs _ := h4
      cases h5
      rw [PyData.shownAll, listText_nil]
      exact .listEmpty h1 h2 h3
    | cons x l => exact .list h1 h2 h3 hna (by simpa using hk.length_eq) fun i y e => hk.item i y (by simpa using e)
  | _, _, _, .tuple (a := a) (xs := xs) h1 h2 h3 h4, hs, hz => by
    simp only [PyData.shown] at hz
    obtain ⟨bs, hb, hk⟩ := rks_of hn h4 hs (fun t ht => Nat.le_trans (tupleText_mem_le ht) hz)
    have r : Reads h₀ (.ref a) (.tuple xs) _ := .tuple h1 h2 h3 h4
    have hna : a ∉ bs := not_mem_of_deeper r (by rw [PyData.depth]; omega) hb
    refine ⟨a :: bs, ReadAtMost.cons r (by rw [PyData.depth]; omega) hb, ?_⟩
    rw [PyData.depth, PyData.shown]
    exact .tuple h1 h2 h3 hna hk
  | _, _, _, .dict _ _ _ _ _, hs, _ => by cases hs
theorem rks_of (hn : h₀.NoDigits) : ∀ {vs : List Value} {ds : List PyData} {as : List Addr}, ReadsAll h₀ vs ds as → shOks ds = true → (∀ t ∈ PyData.shownAll ds, t.length ≤ sizeLine) →
    ∃ bs, ReadAtMost h₀ (PyData.depthAll ds) bs ∧ ReprAllK prog w bs h₀ (PyData.depthAll ds) vs (PyData.shownAll ds)
  | _, _, _, .nil, _, _ => ⟨[], nofun, by rw [PyData.shownAll]; exact .nil⟩
  | _, _, _, .cons (d := d) (ds := ds) r rs, hs, hz => by
    unfold shOks at hs
    rw [Bool.and_eq_true] at hs
    rw [PyData.shownAll] at hz
    obtain ⟨b1, hb1, k1⟩ := rk_of hn r hs.1 (hz _ List.mem_cons_self)
    obtain ⟨b2, hb2, k2⟩ := rks_of hn rs hs.2 fun t ht => hz t (List.mem_cons_of_mem _ ht)
    refine ⟨b1 ++ b2, ?_, ?_⟩
    · rw [PyData.depthAll]
      exact (hb1.mono (Nat.le_max_left _ _)).append (hb2.mono (Nat.le_max_right _ _))
    · rw [PyData.depthAll, PyData.shownAll]
      exact .cons ((k1.more fun b hb => List.mem_append_left _ hb).level_le (Nat.le_max_left _ _)) (k2.more_le (fun b hb => List.mem_append_right _ hb) (Nat.le_max_right _ _))
end
theorem repr_data {A : Around} {E : Value → Shared → Prop} {s : Shared} {Q : Value → Shared → Prop} {v : Value} {d : PyData} {as : List Addr} (hn : s.heap.NoDigits) (r : Reads s.heap v d as) (hs : shOk d = true)
    (hg : A.guards = some []) (hu : A.units + (d.depth + 1) < cLine) (hz : d.shown.length ≤ sizeLine)
    (hQ : ∀ h' u tk, (∀ b o, s.heap.get? b = some o → h'.get? b = some o) → Q (.str d.shown u) { s with heap := h', toks := tk }) : wpAny (model prog w) A (call (.builtin "repr") [v]) Q E s := by
  cases r with
  | none => rw [PyData.shown] at hQ; exact P.repr_of_none (hQ s.heap _ _ fun _ _ e => e)
  | bool b => rw [PyData.shown] at hQ; exact P.repr_of_bool (hQ s.heap _ _ fun _ _ e => e)
  | int i t => rw [PyData.shown] at hQ; exact repr_intN hn (of_decide_eq_true hs) (hQ s.heap _ _ fun _ _ e => e)
  | str x t => rw [PyData.shown] at hQ hz; exact P.repr_of_str (hQ s.heap _ _ fun _ _ e => e) hz
  | @list a o vs n xs as' h1 h2 h3 h4 =>
    simp only [PyData.shown] at hz hQ
    obtain ⟨bs, hb, hk⟩ := rks_of (prog := prog) (w := w) hn h4 hs (fun t ht => Nat.le_trans (listText_mem_le ht) hz)
    have r : Reads s.heap (.ref a) (.list xs) _ := .list h1 h2 h3 h4
    have hna : a ∉ bs := not_mem_of_deeper r (by rw [PyData.depth]; omega) hb
    rw [PyData.depth] at hu
    refine call_repr_slot (by omega) ⟨o, h1, h2⟩ F.slot_list_repr.toG ?_
    have hu' : A.in1.units + (PyData.depthAll xs + 1) < cLine := by show A.units + 1 + _ < _; omega
    obtain ⟨l⟩ := vs
    cases l with
    | nil =>
      have h5 : ReadsAll s.heap [] xs _ := h4
      cases h5
      rw [PyData.shownAll, listText_nil] at hQ
      exact call_list_repr_empty ⟨o, h1, h2⟩ h1 h3 ⟨_, _, rfl, hQ s.heap _ _ fun _ _ e => e⟩
    | cons x l => exact call_list_reprK h1 h2 h3 hna (by simpa using hk.length_eq) (fun i y e => hk.item i y (by simpa using e)) hg (fun b _ => Clear.nil b) hu' (fun _ _ e => e) (fun h' u tk k => ⟨_, _, rfl, hQ h' u tk k⟩) hz
  | @tuple a o vs n xs as' h1 h2 h3 h4 =>
    simp only [PyData.shown] at hz hQ
    obtain ⟨bs, hb, hk⟩ := rks_of (prog := prog) (w := w) hn h4 hs (fun t ht => Nat.le_trans (tupleText_mem_le ht) hz)
    have r : Reads s.heap (.ref a) (.tuple xs) _ := .tuple h1 h2 h3 h4
    have hna : a ∉ bs := not_mem_of_deeper r (by rw [PyData.depth]; omega) hb
    rw [PyData.depth] at hu
    have hu' : A.in1.units + (PyData.depthAll xs + 1) < cLine := by show A.units + 1 + _ < _; omega
    refine call_repr_slot (by omega) ⟨o, h1, h2⟩ F.slot_tuple_repr ?_
    exact call_tuple_reprK h1 h2 h3 hna hk hg (fun b _ => Clear.nil b) hu' (fun _ _ e => e) (fun h' u tk k => ⟨_, _, rfl, hQ h' u tk k⟩) hz
  | dict => cases hs
end
section
variable {X : Cx} {kd : KD} {cls : Nat → Addr}
theorem ck_repr (hg : X.A.guards = some []) (hl : NoLim X.K) (hu : X.A.units + 65 < cLine) : CallR X (.builtin "repr") (rBi ⟨X.K, kd⟩ cls .repr) := by
  intro pins s σ H xs us Q I rs ⟨ρ, S, ds, d, sr, rp, e, q⟩
  unfold evBi at e
  dsimp only at e
  split at e
  · simp only [Option.map_eq_some_iff] at e
    obtain ⟨z, e1, rfl⟩ := e
    obtain ⟨x, rfl, r1⟩ := reps1 rp
    unfold reprD at e1
    split at e1
    · rename_i p hp
      split at e1
      · rename_i hc
        cases e1
        cases rs with
        | cons r2 rs =>
          cases rs
          obtain ⟨as, rd⟩ := (sr.toPS r1 hp).reads I p _ _ r2
          refine repr_data (Inv.noDigits I hl) rd hc.1 hg (by omega) (by omega) fun h' u tk hk => ⟨.str _, H, I.kept hk, ⟨_, rfl⟩, q _ _ _ Ext.refl sr rep_str⟩
      · cases e1
    · cases e1
  · cases e
end
end MP

set_option linter.all false
set_option maxRecDepth 100000
set_option maxHeartbeats 4000000
/-! MiniPy, 13: calls, displays, parts. -/
namespace MP
open PySem PySem.Spec PyProof.Rows L2
section
variable {T : Tab} {N : List Str} {ad : Ad} {cfg : Cfg} {kd : KD} {k : Nat}

theorem ha_nil : HA T N ad cfg kd k .nil := by
  intro X W sc e g hs h
  cases e with
  | nil => exact ⟨pa_nil.imp fun σ H Q ⟨ρ, S, env, sr, sg, out⟩ => out ρ H Ext.refl sr _ (by unfold Reps; rfl), rfl⟩
  | cons _ _ => exact Bool.noConfusion (show false = true from h)
theorem reps_cons {K : KF} {ρ : List Addr} {H : Hp} {d : D} {ds : List D} {v : V} {vs : List V} (a : Rep K ρ H d v) (b : Reps K ρ H ds vs) : Reps K ρ H (d :: ds) (v :: vs) := by unfold Reps; exact ⟨v, vs, rfl, a, b⟩
theorem ha_cons {a : E} {as : Es} (ha : HE T N ad cfg kd k a) (hr : HA T N ad cfg kd k as) : HA T N ad cfg kd k (.cons a as) := by
  intro X W sc e g hs h
  cases e with
  | nil => exact Bool.noConfusion (show false = true from h)
  | cons x xs =>
    simp only [chEs, Bool.and_eq_true] at h
    obtain ⟨⟨h1, h2⟩, h3⟩ := h
    obtain ⟨hr1, hr2⟩ := hr g hs h3
    refine ⟨(pa_cons (ha g hs h1) hr1 (starEach_of h2)).imp fun σ H Q ⟨ρ, S, env, sr, sg, out⟩ => ?_, by rw [List.all_cons, h2, hr2]; rfl⟩
    unfold evEs at out
    refine tE_bind sr sg out (fun _ _ _ _ _ h => h) fun d1 S1 ρ1 H1 v1 x1 s1 g1 r1 o1 => ?_
    refine tEs_bind s1 g1 o1 (fun _ _ _ _ _ h => h) fun d2 S2 ρ2 H2 v2 x2 s2 g2 r2 o2 => ?_
    exact o2 ρ2 H2 Ext.refl s2 _ (reps_cons (r1.ext x2 s1) r2)
theorem ho_none : HO T N ad cfg kd k .none := by
  intro X W sc e g hs h
  cases e with
  | none => exact po_none.imp fun σ H Q ⟨ρ, S, env, sr, sg, out⟩ => out ρ H Ext.refl sr
  | some _ => exact Bool.noConfusion (show false = true from h)
theorem ho_some {a : E} (ha : HE T N ad cfg kd k a) : HO T N ad cfg kd k (.some a) := by
  intro X W sc e g hs h
  cases e with
  | none => exact Bool.noConfusion (show false = true from h)
  | some x =>
    simp only [chEo] at h
    refine (po_some (ha g hs h)).imp fun σ H Q ⟨ρ, S, env, sr, sg, out⟩ => ?_
    unfold evEo at out
    refine tE_bind sr sg out (fun _ _ _ _ _ h => h) fun d1 S1 ρ1 H1 v1 x1 s1 g1 r1 o1 => ?_
    cases d1 with
    | int i => exact ⟨i, rep_int_of r1, o1 ρ1 H1 Ext.refl s1⟩
    | _ => exact False.elim o1
/-! ### calls -/
theorem he_call {f : Nat} {as : Es} (ha : HA T N ad cfg kd k as) : HE T N ad cfg kd k (.call f as) := by
  intro X W sc e g hs h
  cases e <;> try (exact Bool.noConfusion (show false = true from h))
  rename_i fe es kws pos
  cases fe <;> try (exact Bool.noConfusion (show false = true from h))
  cases es <;> try (exact Bool.noConfusion (show false = true from h))
  cases kws <;> try (exact Bool.noConfusion (show false = true from h))
  rename_i x p e1 es
  simp only [chE, Bool.and_eq_true, decide_eq_true_eq] at h
  obtain ⟨⟨⟨h1, h2⟩, h3⟩, h4⟩ := h
  obtain ⟨pa, st⟩ := ha (W := W) g hs h4
  obtain ⟨hm, hk, ps, hb, F⟩ := g.fx.fns _ _ h1
  rw [List.all_cons, Bool.and_eq_true] at st
  refine (MG.pe_callG F g.room g.grd (gl_of hs h2) hm hk hb (fun σ => MX.passAt g.tk σ) pa (nmOk_d h3) (starEach_of st.1) (plain_of st.2)).imp fun σ H Q ⟨ρ, S, env, sr, sg, out⟩ => ?_
  unfold evE at out
  refine tEs_bind sr sg out (fun _ _ _ _ _ h => h) fun d1 S1 ρ1 H1 v1 x1 s1 g1 r1 o1 => ?_
  exact ⟨kd.ex, ρ1, S1, d1, s1, r1, o1⟩
theorem bi_names : ∀ f : Bi, biN f ∈ bltL := by intro f; cases f <;> decide
def isTyBi : Bi → Bool
  | .tuple => true | .list => true | .int => true | .str => true | _ => false
theorem ck_bi {X : Cx} {W : WX} (g : Gd T N ad cfg kd k X W) (f : Bi) :
    ∃ id, (isTyBi f = true → bootBuiltins (biN f) = some (.type id) ∧ CallR X (.type id) (rBi ⟨X.K, kd⟩ ad.cls f)) ∧
      (isTyBi f = false → bootBuiltins (biN f) = some (.builtin id) ∧ CallR X (.builtin id) (rBi ⟨X.K, kd⟩ ad.cls f)) := by
  cases f
  · exact ⟨"len", nofun, fun _ => ⟨by decide +kernel, ck_len⟩⟩
  · exact ⟨"all", nofun, fun _ => ⟨by decide +kernel, ck_all g.calm⟩⟩
  · exact ⟨"any", nofun, fun _ => ⟨by decide +kernel, ck_any g.calm⟩⟩
  · exact ⟨"tuple", fun _ => ⟨by decide +kernel, ck_tuple⟩, nofun⟩
  · exact ⟨"list", fun _ => ⟨by decide +kernel, ck_list⟩, nofun⟩
  · exact ⟨"int", fun _ => ⟨by decide +kernel, ck_int g.fx.lim⟩, nofun⟩
  · exact ⟨"str", fun _ => ⟨by decide +kernel, ck_str g.calm g.fx.lim⟩, nofun⟩
  · exact ⟨"abs", nofun, fun _ => ⟨by decide +kernel, ck_abs⟩⟩
  · exact ⟨"max", nofun, fun _ => ⟨by decide +kernel, ck_max g.calm g.hu⟩⟩
  · exact ⟨"repr", nofun, fun _ => ⟨by decide +kernel, ck_repr g.grd g.fx.lim g.hu⟩⟩
theorem bi_t {K : KF} {W : WX} {f : Bi} {as : Es} {σ : L2.St} {H : Hp} {Q : VK} (h : tE ad K cfg W (.bi f as) σ H Q) : tCB (rBi K ad.cls f) (tEs ad K cfg W as) σ H Q := by
  obtain ⟨ρ, S, env, sr, sg, out⟩ := h
  unfold evE at out
  refine tEs_bind sr sg out (fun _ _ _ _ _ h => h) fun d1 S1 ρ1 H1 v1 x1 s1 g1 r1 o1 => ?_
  obtain ⟨d, hd, q⟩ := out_rOpt o1
  exact ⟨ρ1, S1, d1, d, s1, r1, hd, fun ρ' H' v x' s' r' => q ρ' H' x' s' v r'⟩
theorem he_bi {f : Bi} {as : Es} (ha : HA T N ad cfg kd k as) : HE T N ad cfg kd k (.bi f as) := by
  intro X W sc e g hs h
  cases e <;> try (exact Bool.noConfusion (show false = true from h))
  rename_i fe es kws pos
  cases fe <;> try (exact Bool.noConfusion (show false = true from h))
  cases es <;> try (exact Bool.noConfusion (show false = true from h))
  cases kws <;> try (exact Bool.noConfusion (show false = true from h))
  rename_i x p e1 es
  simp only [chE, Bool.and_eq_true, decide_eq_true_eq] at h
  obtain ⟨⟨h1, h2⟩, h4⟩ := h
  subst h1
  obtain ⟨pa, st⟩ := ha (W := W) g hs h4
  rw [List.all_cons, Bool.and_eq_true] at st
  obtain ⟨id, c1, c2⟩ := ck_bi g f
  have n1 : biN f ≠ ("__name__" : Str) := by cases f <;> decide
  have n2 : (biN f == ("__debug__" : Str)) = false := by cases f <;> decide
  have hm := g.fx.blt _ (bi_names f)
  cases q : isTyBi f with
  | true => exact (pe_callTy (c1 q).2 (gl_of hs h2) hm (c1 q).1 pa n1 n2 (starEach_of st.1) (plain_of st.2)).imp fun σ H Q h => bi_t h
  | false => exact (pe_callB (c2 q).2 (gl_of hs h2) hm (c2 q).1 pa n1 n2 (starEach_of st.1) (plain_of st.2)).imp fun σ H Q h => bi_t h
theorem he_isi {a : E} {t : Ty} (ha : HE T N ad cfg kd k a) : HE T N ad cfg kd k (.isi a t) := by
  intro X W sc e g hs h
  cases e <;> try (exact Bool.noConfusion (show false = true from h))
  rename_i fe es kws pos
  cases fe <;> try (exact Bool.noConfusion (show false = true from h))
  rcases es with _ | ⟨y, _ | ⟨z, _ | ⟨_, _⟩⟩⟩ <;> try (exact Bool.noConfusion (show false = true from h))
  all_goals cases z <;> try (exact Bool.noConfusion (show false = true from h))
  all_goals cases kws <;> try (exact Bool.noConfusion (show false = true from h))
  rename_i x p z pz
  simp only [chE, Bool.and_eq_true, decide_eq_true_eq] at h
  obtain ⟨⟨⟨⟨⟨⟨h1, h2⟩, h3⟩, h4⟩, h5⟩, h6⟩, h7⟩ := h
  subst h1 h3
  have key : bootBuiltins (tyN t) = some (.type (tyS t)) ∧ tyN t ≠ ("__name__" : Str) ∧ (tyN t == ("__debug__" : Str)) = false ∧ tyN t ∈ bltL := by
    cases t <;> first | exact ⟨by decide +kernel, by decide, by decide, by decide⟩ | cases h5
  obtain ⟨k1, k2, k3, k4⟩ := key
  have pz : PE X (.Name (tyN t) pz) _ := pe_bltn (v := .ty (tyS t)) (gl_of hs h4) (g.fx.blt _ k4) k1 rfl k2 k3
  have hst : ∀ env, starEach [y, .Name (tyN t) ‹Pos›] env = (false, eval y env) :: starEach [.Name (tyN t) ‹Pos›] env := fun env => starEach_of h7
  refine (pe_callB call_isi (gl_of hs h2) (g.fx.blt _ (by decide)) (by decide +kernel) (pa_cons (ha (W := W) g hs h6) (pa_cons pz pa_nil rfl) (starEach_of h7)) (by decide) (by decide) (starEach_of h7) rfl).imp fun σ H Q ⟨ρ, S, env, sr, sg, out⟩ => ?_
  unfold evE at out
  refine tE_bind sr sg out (fun _ _ _ _ _ h => h) fun d1 S1 ρ1 H1 v1 x1 s1 g1 r1 o1 => ?_
  cases q : isTy S1 d1 t with
  | none => rw [q] at o1; exact False.elim o1
  | some b =>
    rw [q] at o1
    obtain ⟨n, ty, kb⟩ := isTy_ty s1 r1 q
    exact ⟨v1, .ty (tyS t), .type n, .type (tyS t), b, rfl, .ty _, ty, kit_ty kb, o1 ρ1 H1 Ext.refl s1 _ rep_bl⟩
/-! ### methods -/
theorem few_of {cpos : Pos} {env : PySem.Env} {es : List Expr} (h : es.all noStar = true) (hl : es.length < 21) : ((backTo cpos (starEach es env)).all (fun x => !x.1) && (backToKw cpos (keywordEach [] env)).all (fun x => x.1.isSome)
      && decide (es.length + ([] : List Keyword).length + (if ([] : List Keyword).isEmpty then 0 else 1) < 30)) = true := by
  have h1 : (backTo cpos (starEach es env)).all (fun x => !x.1) = true := by
    have := plain_of (pos := cpos) (env := env) h
    rw [List.all_eq_true]
    rw [List.any_eq_false] at this
    intro z hz
    have := this z hz
    simp only [Bool.not_eq_true] at this
    rw [this]; rfl
  rw [h1]
  have h2 : (backToKw cpos (keywordEach [] env)).all (fun x => x.1.isSome) = true := rfl
  rw [h2]
  simp only [Bool.and_self, Bool.true_and, decide_eq_true_eq, List.length_nil, List.isEmpty_nil, if_true]
  omega
def meI : Me → String
  | .join => "str.join" | .split => "str.split" | .partition => "str.partition"
theorem me_rule {X : Cx} (m : Me) : Slot "str" (meN m) (meI m) ∧ typeOf (.builtin (meI m)) = pure (.type "method_descriptor") ∧ MtR X (meI m) (rMe ⟨X.K, kd⟩ ad.cls m) := by
  cases m
  · exact ⟨F.slot_str_join, F.type_str_join, mm_join⟩
  · exact ⟨F.slot_str_split, F.type_str_split, mm_split⟩
  · exact ⟨F.slot_str_partition, F.type_str_partition, mm_partition⟩
theorem he_me {m : Me} {o : E} {as : Es} (ho : HE T N ad cfg kd k o) (ha : HA T N ad cfg kd k as) : HE T N ad cfg kd k (.me m o as) := by
  intro X W sc e g hs h
  cases e <;> try (exact Bool.noConfusion (show false = true from h))
  rename_i fe es kws pos
  cases fe <;> try (exact Bool.noConfusion (show false = true from h))
  cases es <;> try (exact Bool.noConfusion (show false = true from h))
  cases kws <;> try (exact Bool.noConfusion (show false = true from h))
  rename_i x f p e1 es
  simp only [chE, Bool.and_eq_true, decide_eq_true_eq] at h
  obtain ⟨⟨⟨⟨⟨h1, h2⟩, h3⟩, h4⟩, h5⟩, h6⟩ := h
  subst h1
  obtain ⟨c1, c2, c3⟩ := me_rule (kd := kd) (ad := ad) (X := X) m
  obtain ⟨pa, st⟩ := ha (W := W) g hs h3
  have st' := st
  rw [List.all_cons, Bool.and_eq_true] at st'
  refine (pe_bm F.plainAttrs_str c1 c2 c3 (ho (W := W) g hs h2) pa (base_of h4) (few_of st (by rw [List.length_cons]; omega)) h6 (starEach_of st'.1) (plain_of st'.2)).imp fun σ H Q ⟨ρ, S, env, sr, sg, out⟩ => ?_
  unfold evE at out
  refine tE_bind sr sg out (fun _ _ _ _ _ h => h) fun d1 S1 ρ1 H1 v1 x1 s1 g1 r1 o1 => ?_
  by_cases q : isStrD d1 = true
  · rw [if_pos q] at o1
    cases d1 <;> simp [isStrD] at q
    have e1 := rep_str_of r1
    subst e1
    refine ⟨rfl, ?_⟩
    refine tEs_bind s1 g1 o1 (fun _ _ _ _ _ h => h) fun d2 S2 ρ2 H2 v2 x2 s2 g2 r2 o2 => ?_
    obtain ⟨d, hd, q⟩ := out_rOpt o2
    exact ⟨ρ2, S2, _, d2, d, s2, rep_str, r2, hd, fun ρ' H' v x' s' r' => q ρ' H' x' s' v r'⟩
  · rw [if_neg q] at o1; exact False.elim o1
def lmI : Lm → String
  | .append => "list.append" | .pop => "list.pop" | .extend => "list.extend"
theorem lm_rule {X : Cx} (m : Lm) : Slot "list" (lmN m) (lmI m) ∧ typeOf (.builtin (lmI m)) = pure (.type "method_descriptor") ∧ MtR X (lmI m) (rLm ⟨X.K, kd⟩ ad.cls m) := by
  cases m
  · exact ⟨F.slot_list_append, F.type_list_append, ml_append⟩
  · exact ⟨F.slot_list_pop, F.type_list_pop, ml_pop⟩
  · exact ⟨F.slot_list_extend, F.type_list_extend, ml_extend⟩
theorem isLoc_ty {K : KF} {ρ : List Addr} {S : Sto} {H : Hp} {d : D} {v : V} (sr : SR K ad.cls ρ S H) (r : Rep K ρ H d v) (q : isLocD S d = true) : tyV K.F "list" v H := by
  cases d <;> simp only [isLocD, Bool.false_eq_true] at q
  split at q
  · rename_i l hl
    obtain ⟨a, vs, rfl, _, k, _⟩ := loc_at sr r hl
    exact .inl ⟨rfl, vs, SqL.of k⟩
  · cases q
theorem lm_t {K : KF} {W : WX} {m : Lm} {o : E} {as : Es} {σ : L2.St} {H : Hp} {Q : VK} (h : tE ad K cfg W (.lm m o as) σ H Q) : tBM K.F "list" (rLm K ad.cls m) (tE ad K cfg W o) (tEs ad K cfg W as) σ H Q := by
  obtain ⟨ρ, S, env, sr, sg, out⟩ := h
  unfold evE at out
  refine tE_bind sr sg out (fun _ _ _ _ _ h => h) fun d1 S1 ρ1 H1 v1 x1 s1 g1 r1 o1 => ?_
  by_cases q : isLocD S1 d1 = true
  · rw [if_pos q] at o1
    refine ⟨isLoc_ty s1 r1 q, ?_⟩
    refine tEs_bind s1 g1 o1 (fun _ _ _ _ _ h => h) fun d2 S2 ρ2 H2 v2 x2 s2 g2 r2 o2 => ?_
    refine ⟨ρ2, S2, _, d2, s2, r1.ext x2 s1, r2, ?_⟩
    have noexc : ∀ c e S3, evLm m S2 d1 d2 ≠ .exc c e S3 := by
      intro c e S3 z
      unfold evLm at z
      repeat (first | contradiction | split at z)
    cases z : evLm m S2 d1 d2 with
    | ok d S3 => rw [z] at o2; exact o2
    | exc c e S3 => exact absurd z (noexc c e S3)
    | bad => rw [z] at o2; exact o2
  · rw [if_neg q] at o1; exact False.elim o1
theorem he_lm {m : Lm} {o : E} {as : Es} (ho : HE T N ad cfg kd k o) (ha : HA T N ad cfg kd k as) : HE T N ad cfg kd k (.lm m o as) := by
  intro X W sc e g hs h
  cases e <;> try (cases m <;> cases as <;> exact Bool.noConfusion (show false = true from h))
  rename_i fe es kws pos
  cases fe <;> try (cases m <;> cases as <;> exact Bool.noConfusion (show false = true from h))
  cases kws <;> try (cases m <;> cases as <;> cases es <;> exact Bool.noConfusion (show false = true from h))
  obtain ⟨c1, c2, c3⟩ := lm_rule (kd := kd) (ad := ad) (X := X) m
  cases es with
  | nil =>
    rename_i x f p
    cases m <;> try (exact Bool.noConfusion (show false = true from h))
    cases as <;> try (exact Bool.noConfusion (show false = true from h))
    simp only [chE, Bool.and_eq_true, decide_eq_true_eq] at h
    obtain ⟨⟨⟨h1, h2⟩, h4⟩, h6⟩ := h
    subst h1
    refine (pe_bm0 F.plainAttrs_list c1 c2 c3 (ho (W := W) g hs h2) (base_of h4) h6).imp fun σ H Q h => ?_
    obtain ⟨ρ, S, env, sr, sg, out⟩ := lm_t h
    exact ⟨ρ, S, env, sr, sg, out.mono (fun d S1 ρ1 H1 x s q v r => ⟨(q v r).1, by
      obtain ⟨ρ2, S2, env2, s2, g2, o2⟩ := (q v r).2
      exact o2 ρ2 H1 Ext.refl s2 [] (by unfold Reps; rfl)⟩) fun _ _ _ _ _ _ _ h => h⟩
  | cons e1 es =>
    rename_i x f p
    have h' : lmN m = f ∧ chE T N sc o x = true ∧ chEs T N sc as (e1 :: es) = true ∧ noCall0 x = true ∧ es.length < 20 ∧ (p.endLine == pos.line) = true := by
      cases m <;> (try cases as) <;> first
        | exact Bool.noConfusion (show false = true from h)
        | (simp only [chE, Bool.and_eq_true, decide_eq_true_eq] at h; exact ⟨h.1.1.1.1.1, h.1.1.1.1.2, h.1.1.1.2, h.1.1.2, h.1.2, h.2⟩)
    obtain ⟨h1, h2, h3, h4, h5, h6⟩ := h'
    subst h1
    obtain ⟨pa, st⟩ := ha (W := W) g hs h3
    have st' := st
    rw [List.all_cons, Bool.and_eq_true] at st'
    exact (pe_bm F.plainAttrs_list c1 c2 c3 (ho (W := W) g hs h2) pa (base_of h4) (few_of st (by rw [List.length_cons]; omega)) h6 (starEach_of st'.1) (plain_of st'.2)).imp fun σ H Q h => lm_t h
end
end MP

set_option linter.all false
set_option maxRecDepth 100000
set_option maxHeartbeats 4000000
/-! MiniPy, 14: parts, displays. -/
namespace MP
open PySem PySem.Spec PyProof.Rows L2
section
variable {T : Tab} {N : List Str} {ad : Ad} {cfg : Cfg} {kd : KD} {k : Nat}

theorem he_idx {a b : E} (ha : HE T N ad cfg kd k a) (hb : HE T N ad cfg kd k b) : HE T N ad cfg kd k (.idx a b) := by
  intro X W sc e g hs h
  cases e <;> try (exact Bool.noConfusion (show false = true from h))
  simp only [chE, Bool.and_eq_true] at h
  obtain ⟨⟨h1, h2⟩, h3⟩ := h
  refine (pe_ix (ix_all (cls := ad.cls) g.hu g.fx.dts) (ha (W := W) g hs h1) (hb (W := W) g hs h2) (plainIx_of h3)).imp fun σ H Q ⟨ρ, S, env, sr, sg, out⟩ => ?_
  unfold evE at out
  refine tE_bind sr sg out (fun _ _ _ _ _ h => h) fun d1 S1 ρ1 H1 v1 x1 s1 g1 r1 o1 => ?_
  refine tE_bind s1 g1 o1 (fun _ _ _ _ _ h => h) fun d2 S2 ρ2 H2 v2 x2 s2 g2 r2 o2 => ?_
  obtain ⟨d, hd, q⟩ := out_rOpt o2
  exact ⟨ρ2, S2, d1, d2, d, s2, r1.ext x2 s1, r2, hd, fun ρ' H' v x' s' r' => q ρ' H' x' s' v r'⟩
theorem he_slc {a : E} {lo hi : Eo} (ha : HE T N ad cfg kd k a) (hl : HO T N ad cfg kd k lo) (hh : HO T N ad cfg kd k hi) : HE T N ad cfg kd k (.slc a lo hi) := by
  intro X W sc e g hs h
  cases e <;> try (exact Bool.noConfusion (show false = true from h))
  rename_i x sl pos
  cases sl <;> try (exact Bool.noConfusion (show false = true from h))
  rename_i l u st p
  cases st <;> try (exact Bool.noConfusion (show false = true from h))
  simp only [chE, Bool.and_eq_true] at h
  obtain ⟨⟨h1, h2⟩, h3⟩ := h
  refine (pe_slice (sl_all (kd := kd) (cls := ad.cls)) (ha (W := W) g hs h1) (hl (W := W) g hs h2) (hh (W := W) g hs h3)).imp fun σ H Q ⟨ρ, S, env, sr, sg, out⟩ => ?_
  unfold evE at out
  refine tE_bind sr sg out (fun _ _ _ _ _ h => h) fun d1 S1 ρ1 H1 v1 x1 s1 g1 r1 o1 => ?_
  refine tEo_bind s1 g1 o1 (fun _ _ _ _ _ h => h) fun d2 S2 ρ2 H2 x2 s2 g2 o2 => ?_
  refine tEo_bind s2 g2 o2 (fun _ _ _ _ _ h => h) fun d3 S3 ρ3 H3 x3 s3 g3 o3 => ?_
  obtain ⟨d, hd, q⟩ := out_rOpt o3
  exact ⟨ρ3, S3, d1, d, s3, (r1.ext x2 s1).ext x3 s2, hd, fun ρ' H' v x' s' r' => q ρ' H' x' s' v r'⟩
/-! ### x[::-1] -/
def tRevQ (K : PySem.W.Frag) (te : TE) : TE := fun σ H Q => te σ H fun x H1 => ∃ a xs, x = .ref a ∧ ((SqL K H1 a xs ∧ ∀ p, H1 p = none → Q (.ref p) (upd H1 p (.lst xs.reverse))) ∨ (SqT K H1 a xs ∧ ∀ p, H1 p = none → Q (.ref p) (upd H1 p (.tup xs.reverse))))
theorem pe_revQ {X : Cx} {e : Expr} {te : TE} {k : Nat} {p1 p2 p3 pos : Pos} (he : PE X e te) : PE X (.Subscript e (.Slice none none (some (.UnaryOp .USub (.Constant (.int 1) k p1) p2)) p3) pos) (tRevQ X.K te) := by
  refine ⟨fun pins s σ H Q I h => ?_⟩
  refine Subscript_ (thn (he.run pins s σ H _ I h) fun v s1 ⟨x, H1, I1, r1, q1⟩ => ?_)
  obtain ⟨a, xs, ex, q1⟩ := q1
  subst ex
  cases r1
  have hst : PO X (some (.UnaryOp .USub (.Constant (.int 1) k p1) p2)) (tPart (tUn (rU fun i => .int (-i)) (tC (.int 1)))) := po_some (pe_un un_neg pe_int)
  refine wpAny_Slice (thn (po_none.run pins s1 σ H1 (fun o J => o = none ∧ J = H1) I1 ⟨rfl, rfl⟩) fun vl s2 ⟨l, H2, I2, pl, el, e2⟩ => ?_)
  subst el e2
  refine thn (po_none.run pins s2 σ H2 (fun o J => o = none ∧ J = H2) I2 ⟨rfl, rfl⟩) fun vu s3 ⟨u, H3, I3, pu, eu, e3⟩ => ?_
  subst eu e3
  refine thn (hst.run pins s3 σ H3 (fun o J => o = some (-1) ∧ J = H3) I3 ⟨1, rfl, -1, rfl, rfl, rfl⟩) fun vs s4 ⟨o, H4, I4, ps, eo, e4⟩ => ?_
  subst eo e4
  cases pl
  cases pu
  have I5 : Inv X pins σ H4 { s4 with heap := s4.heap.push { cls := .type "slice", data := .fields #[.none, .none, vs] } } := I4.kept (t' := s4.toks) fun b ob q => Heap.get?_push_of_some _ q
  show wpAny (model X.prog X.w) X.A (subscriptTail e (.Slice none none (some (.UnaryOp .USub (.Constant (.int 1) k p1) p2)) p3) (.ref a) (.ref s4.heap.objs.size)) (EP X pins σ Q) X.xe { s4 with heap := s4.heap.push { cls := .type "slice", data := .fields #[.none, .none, vs] } }
  rcases q1 with ⟨hx, q⟩ | ⟨hx, q⟩
  · obtain ⟨its, r, ht, hz⟩ := I5.list hx
    have hlen := r.length
    refine tail_any (ops := [.ref a, .ref s4.heap.objs.size]) ht.isList.typeIs (PySem.slot_list_getitem.lookup) ?_ (by with_unfolding_all rfl)
    refine wpAny_getItem_list_slice ht.isList (Heap.IsSliceOf.new _ .none .none vs) .none .none ps (by decide) ?_ (by rw [List.size_toArray]; omega)
    rw [PySem.W.krv_pick]
    exact ⟨.ref _, _, I5.lnew r.reverse (by rw [List.length_reverse]; omega), rfl, q _ I5.fresh⟩
  · obtain ⟨its, r, ht, hz⟩ := I5.tuple hx
    have hlen := r.length
    refine tail_any (ops := [.ref a, .ref s4.heap.objs.size]) ht.typeIs (PySem.F.slot_tuple_getitem.lookup) ?_ (by with_unfolding_all rfl)
    refine getItem_tuple_rev ht (Heap.IsSliceOf.new _ .none .none vs) ps ?_ (by omega)
    refine ⟨.ref _, upd H4 _ (.tup xs.reverse), I5.laid (t' := s4.toks) (fun b u e => Heap.get?_push_of_some _ e) (Nat.le_refl _) ?_, rfl, q _ I5.fresh⟩
    exact ⟨by rw [List.length_reverse]; omega, its.reverse, r.reverse, ⟨_, Heap.get?_push_size _ rfl, rfl, _, rfl⟩⟩
theorem reps_reverse {K : KF} {ρ : List Addr} {H : Hp} {ds : List D} {vs : List V} (r : Reps K ρ H ds vs) : Reps K ρ H ds.reverse vs.reverse := Reps.rev r
theorem he_rev {a : E} (ha : HE T N ad cfg kd k a) : HE T N ad cfg kd k (.rev a) := by
  intro X W sc e g hs h
  have hh : ∃ x j p1 p2 p3 pos, e = .Subscript x (.Slice none none (some (.UnaryOp .USub (.Constant (.int 1) j p1) p2)) p3) pos ∧ chE T N sc a x = true := by
    unfold chE at h
    split at h <;> first | (cases h; done) | (rename_i h1 _; cases h1; done) | (rename_i h1 _; cases h1; exact ⟨_, _, _, _, _, _, rfl, h⟩) | (rename_i h1; cases h1; exact ⟨_, _, _, _, _, _, rfl, h⟩) | contradiction
  obtain ⟨x, j, p1, p2, p3, pos, rfl, h⟩ := hh
  refine (pe_revQ (ha (W := W) g hs h)).imp fun σ H Q ⟨ρ, S, env, sr, sg, out⟩ => ?_
  unfold evE at out
  refine tE_bind sr sg out (fun _ _ _ _ _ h => h) fun d1 S1 ρ1 H1 v1 x1 s1 g1 r1 o1 => ?_
  obtain ⟨d, hd, q⟩ := out_rOpt o1
  unfold evRev at hd
  split at hd
  · cases hd
    obtain ⟨a, vs, rfl, kk, r2⟩ := rep_tup_of r1
    refine ⟨a, vs, rfl, .inr ⟨kk, fun p hp => ?_⟩⟩
    obtain ⟨x2, s2, r3⟩ := newTup s1 hp (reps_reverse r2)
    exact q _ _ x2 s2 _ r3
  · simp only [Option.map_eq_some_iff] at hd
    obtain ⟨l, e1, rfl⟩ := hd
    obtain ⟨a, vs, rfl, kk, r2⟩ := s1.asL r1 e1
    refine ⟨a, vs, rfl, .inl ⟨SqL.of kk, fun p hp => ?_⟩⟩
    obtain ⟨x2, s2, r3⟩ := newLst s1 hp (reps_reverse r2)
    exact q _ _ x2 s2 _ r3
/-! ### displays -/
theorem he_tup {as : Es} (ha : HA T N ad cfg kd k as) : HE T N ad cfg kd k (.tup as) := by
  intro X W sc e g hs h
  cases e <;> try (exact Bool.noConfusion (show false = true from h))
  simp only [chE] at h
  refine (pe_tup (ha (W := W) g hs h).1).imp fun σ H Q ⟨ρ, S, env, sr, sg, out⟩ => ?_
  unfold evE at out
  refine tEs_bind sr sg out (fun _ _ _ _ _ h => h) fun d1 S1 ρ1 H1 v1 x1 s1 g1 r1 o1 => ?_
  split at o1
  · rename_i hz
    refine ⟨by rw [Reps.len r1]; exact hz, fun p hp => ?_⟩
    obtain ⟨x2, s2, r3⟩ := newTup s1 hp r1
    exact o1 _ _ x2 s2 _ r3
  · exact False.elim o1
theorem he_lst {mu : Bool} {as : Es} (ha : HA T N ad cfg kd k as) : HE T N ad cfg kd k (.lst mu as) := by
  intro X W sc e g hs h
  cases e <;> try (exact Bool.noConfusion (show false = true from h))
  simp only [chE] at h
  refine (pe_lst (ha (W := W) g hs h).1).imp fun σ H Q ⟨ρ, S, env, sr, sg, out⟩ => ?_
  unfold evE at out
  refine tEs_bind sr sg out (fun _ _ _ _ _ h => h) fun d1 S1 ρ1 H1 v1 x1 s1 g1 r1 o1 => ?_
  split at o1
  · rename_i hz
    refine ⟨by rw [Reps.len r1]; exact hz, fun p hp => ?_⟩
    cases mu with
    | true =>
      obtain ⟨x2, s2, r3⟩ := newLoc s1 hp r1
      exact o1 _ _ x2 s2 _ r3
    | false =>
      obtain ⟨x2, s2, r3⟩ := newLst s1 hp r1
      exact o1 _ _ x2 s2 _ r3
  · exact False.elim o1
theorem dct_kvs {X : Cx} {pos : Pos} : ∀ {kvs : List (Str × Str)} {ks : List (Option Expr)} {vs : List Expr}, dctB kvs ks vs = true →
    ∃ trs, PPs X pos ks vs trs ∧ ks.all (·.isSome) = true ∧ ks.length = vs.length ∧ ks.length = kvs.length ∧ ∀ σ H Q, Q (kvs.map fun p => (V.str p.1, V.str p.2)) H → tPairs trs σ H Q
  | [], [], [], _ => ⟨[], pps_nil, rfl, rfl, rfl, fun _ _ _ h => h⟩
  | (a, b) :: r, some (.Constant (.str a') _ _) :: ks, .Constant (.str b') _ _ :: vs, h => by
    simp only [dctB, Bool.and_eq_true, beq_iff_eq] at h
    obtain ⟨⟨rfl, rfl⟩, h3⟩ := h
    obtain ⟨trs, h4, h5, h6, h7, h8⟩ := dct_kvs (X := X) (pos := pos) h3
    refine ⟨_, pps_cons pe_str pe_str h4, by rw [List.all_cons, h5]; rfl, by rw [List.length_cons, List.length_cons, h6], by rw [List.length_cons, List.length_cons, h7], fun σ H Q q => ?_⟩
    exact h8 σ H _ q
theorem mergeK_new : ∀ (more kvs : List (Key × V)), ((kvs ++ more).map (·.1)).Nodup → mergeK kvs more = kvs ++ more
  | [], kvs, _ => by rw [List.append_nil]; rfl
  | (a, b) :: r, kvs, h => by
    have h1 : ((kvs ++ [(a, b)]) ++ r) = kvs ++ (a, b) :: r := by simp
    have hn : valV kvs a = none := by
      unfold valV
      rw [Option.map_eq_none_iff, List.find?_eq_none]
      intro z hz
      simp only [decide_eq_true_eq]
      intro e
      rw [List.map_append, List.nodup_append] at h
      exact h.2.2 z.1 (List.mem_map_of_mem hz) a (by simp) e
    show mergeK (putK kvs a b) r = _
    rw [putK_new b hn, mergeK_new r _ (by rw [h1]; exact h), h1]
theorem he_dct {kvs : List (Str × Str)} : HE T N ad cfg kd k (.dct kvs) := by
  intro X W sc e g hs h
  cases e <;> try (exact Bool.noConfusion (show false = true from h))
  simp only [chE, Bool.and_eq_true, decide_eq_true_eq] at h
  obtain ⟨⟨⟨h1, h2⟩, h3⟩, h4⟩ := h
  obtain ⟨trs, k1, k2, k3, k4, k5⟩ := dct_kvs (X := X) h1
  refine (pe_disp k1 k2 k3 (by intro z; rw [z] at k4; simp at k4; omega) (by omega)).imp fun σ H Q ⟨ρ, S, env, sr, sg, out⟩ => ?_
  intro p hp
  refine k5 _ _ _ ⟨upd_same, kvs.map fun q => (Sum.inr q.1, V.str q.2), by rw [List.map_map]; rfl, by rw [List.length_map]; exact h3, ?_⟩
  have hm : mergeK [] (kvs.map fun q => ((Sum.inr q.1 : Key), V.str q.2)) = kvs.map fun q => (Sum.inr q.1, V.str q.2) := by
    rw [mergeK_new _ [] ?_, List.nil_append]
    rw [List.nil_append, List.map_map]
    have : (kvs.map ((fun x => x.1) ∘ fun q => ((Sum.inr q.1 : Key), V.str q.2))) = (kvs.map (·.1)).map Sum.inr := by rw [List.map_map]; rfl
    rw [this]
    exact List.Pairwise.map _ (fun a b hne e => hne (Sum.inr.inj e)) h4
  rw [upd_upd, hm]
  have x1 : Ext ρ H ρ (upd H p (.dK (kvs.map fun q => (Sum.inr q.1, V.str q.2)))) := Ext.fresh hp
  have s1 := sr.fresh (o := .dK (kvs.map fun q => (Sum.inr q.1, V.str q.2))) hp
  exact out ρ _ x1 s1 _ (by unfold Rep; exact ⟨p, rfl, .inl ⟨upd_same, sr.ni hp⟩⟩)
/-! ### a[i].replace(y, z) -/
theorem he_repl {a : E} {i : Int} {y z : Str} (ha : HE T N ad cfg kd k a) : HE T N ad cfg kd k (.repl a i y z) := by
  intro X W sc e g hs h
  have hh : ∃ x j p1 p2 ap j1 q1 j2 q2 pos, e = .Call (.Attribute (.Subscript x (.Constant (.int i) j p1) p2) "replace" ap) [.Constant (.str y) j1 q1, .Constant (.str z) j2 q2] [] pos ∧ chE T N sc a x = true ∧ (y == z) = false ∧ (ap.endLine == pos.line) = true := by
    unfold chE at h
    split at h <;> first | contradiction | skip
    all_goals first
      | (rename_i h1 _; cases h1; simp only [Bool.and_eq_true, decide_eq_true_eq, beq_iff_eq, Bool.not_eq_true'] at h; obtain ⟨⟨⟨⟨⟨⟨rfl, h2⟩, rfl⟩, rfl⟩, rfl⟩, h3⟩, h4⟩ := h; exact ⟨_, _, _, _, _, _, _, _, _, _, rfl, h2, h3, by simp [h4]⟩)
      | (rename_i h1; cases h1; simp only [Bool.and_eq_true, decide_eq_true_eq, beq_iff_eq, Bool.not_eq_true'] at h; obtain ⟨⟨⟨⟨⟨⟨rfl, h2⟩, rfl⟩, rfl⟩, rfl⟩, h3⟩, h4⟩ := h; exact ⟨_, _, _, _, _, _, _, _, _, _, rfl, h2, h3, by simp [h4]⟩)
  obtain ⟨x, j, p1, p2, ap, j1, q1, j2, q2, pos, rfl, h2, hyz, hl⟩ := hh
  refine ⟨fun pins s σ H Q I ⟨ρ, S, env, sr, sg, out⟩ => ?_⟩
  unfold evE at out
  refine PySem.Call_method2 rfl rfl hl ?_
  refine Subscript_ (thn ((ha (W := W) g hs h2).run pins s σ H _ I (tE_bind sr sg out (fun _ _ _ _ _ h => h) fun d1 S1 ρ1 H1 v1 x1 s1 g1 r1 o1 => (show ∃ ρ S d, SR ⟨X.K, kd⟩ ad.cls ρ S H1 ∧ Rep ⟨X.K, kd⟩ ρ H1 d v1 ∧ Out ⟨X.K, kd⟩ ad.cls ((rOpt S (evIdx S d (.int i))).bind fun d S2 => match d with
    | .str x => if x.length + (x.length + 1) * z.length ≤ 16777216 then .ok (.str (Txt.replace x y z)) S2 else .bad
    | _ => .bad) ρ H1 (fun d _ ρ' H' => ∀ v, Rep ⟨X.K, kd⟩ ρ' H' d v → Q v H') (ExX ad ⟨X.K, kd⟩ fun c d J => W c d σ J) from ⟨ρ1, S1, d1, s1, r1, o1⟩))) fun v s1 ⟨x1, H1, I1, r1, ρ1, S1, d1, t1, r2, o1⟩ => ?_)
  refine wpAny_Constant_int ?_
  cases q : evIdx S1 d1 (.int i) with
  | none => rw [q] at o1; exact False.elim o1
  | some d =>
    rw [q] at o1
    have o2 : Out ⟨X.K, kd⟩ ad.cls (match d with
      | .str x => if x.length + (x.length + 1) * z.length ≤ 16777216 then .ok (.str (Txt.replace x y z)) S1 else .bad
      | _ => .bad) ρ1 H1 (fun d _ ρ' H' => ∀ v, Rep ⟨X.K, kd⟩ ρ' H' d v → Q v H') (ExX ad ⟨X.K, kd⟩ fun c d J => W c d σ J) := o1
    refine wpAny_mono (PySem.wpAny_toks (ix_all (cls := ad.cls) g.hu g.fx.dts x (.Constant (.int i) j p1) pins { s1 with toks := s1.toks + 1 } σ H1 x1 (.int i) v (.int i s1.toks) (fun v' H' => ∃ ρ' , Ext ρ1 H1 ρ' H' ∧ SR ⟨X.K, kd⟩ ad.cls ρ' S1 H' ∧ Rep ⟨X.K, kd⟩ ρ' H' d v') (I1.tok _) r1 ⟨_, rfl⟩
      ⟨ρ1, S1, d1, .int i, d, t1, r2, rep_int, q, fun ρ' H' v' x' s' r' => ⟨ρ', x', s', r'⟩⟩ rfl)) (fun v2 s2 ⟨hk, w, J, I2, r3, ρ2, x2, s3, r4⟩ => ?_) fun _ _ z => z.2
    have hk : s1.toks + 1 ≤ s2.toks := hk
    cases d with
    | str tx =>
      dsimp only at o2
      split at o2
      · rename_i hb
        have e1 := rep_str_of r4
        subst e1
        obtain ⟨tt, rfl⟩ := r3
        refine ⟨"str", _, PySem.F.plainAttrs_str, PySem.F.slot_str_replace, PySem.F.type_str_replace, typeIs_str _ _ _, (fun _ e => nomatch e), Calls.callWith_builtin rfl (Calls.evalArgs_plain (Calls.spliced_cons ?_))⟩
        refine Calls.Constant_str (Calls.spliced_cons (Calls.Constant_str (Calls.spliced_nil ?_)))
        exact PySem.SC.replace (by show s2.toks ≠ 0; omega) (by show s2.toks + 1 ≠ 0; omega) (by show s2.toks ≠ s2.toks + 1; omega) hyz hb fun t' k' => ⟨.str (Txt.replace tx y z), J, I2.tok k', ⟨t', rfl⟩, o2 ρ2 J x2 s3 _ rep_str⟩
      · exact False.elim o2
    | _ => exact False.elim o2
end
end MP

set_option linter.all false
set_option maxRecDepth 100000
set_option maxHeartbeats 4000000
/-! MiniPy, 15: what is walked. -/
namespace MP
open PySem PySem.Spec PyProof.Rows L2

/-! ### the keys of a written dict -/
def Itkd (es : Array DictEntry) : L2.It :=
  ⟨fun i _ => i < es.size, fun i H x H' => H' = H ∧ ∃ en k t, es[i]? = some en ∧ en.key = .str k t ∧ x = .str k, fun i _ => es.size ≤ i⟩
theorem esOk_at : ∀ {es : List DictEntry} {kvs : List (Str × Str)}, EsOk es kvs → es.length = kvs.length ∧ ∀ (i : Nat) (en : DictEntry), es[i]? = some en → ∃ k v t, kvs[i]? = some (k, v) ∧ en.key = Value.str k t
  | [], [], _ => ⟨rfl, fun i en h => by simp at h⟩
  | e :: es, (k, v) :: kvs, ⟨⟨t, h1⟩, _, h3⟩ => by
    obtain ⟨l, a⟩ := esOk_at h3
    refine ⟨by rw [List.length_cons, List.length_cons, l], fun i en h => ?_⟩
    cases i with
    | zero => simp at h; subst h; exact ⟨k, v, t, by simp, h1⟩
    | succ i => simp at h; obtain ⟨k', v', t', q1, q2⟩ := a i en h; exact ⟨k', v', t', by simpa using q1, q2⟩
  | [], _ :: _, h => by cases h
  | _ :: _, [], h => by cases h
theorem turn_kd {P : Program} {w : World} {K : PySem.W.Frag} {tg : Expr} {d : Addr} {es : Array DictEntry} {n : Nat} (D : KDict K w d es n) (hk : ∀ en ∈ es.toList, ∃ k t, en.key = .str k t) (it : Addr) :
    Turn P w K tg (Itkd es) [it] it (fun i h => h.IsKeyIter it d i es.size n) where
  mem := by simp
  obj := fun i h st b hb => by
    have e : b = it := by simpa using hb
    subst e
    obtain ⟨oi, e, c, dd⟩ := st
    exact ⟨oi, e, fun v z => by rw [dd] at z; cases z⟩
  keep := fun i h h' st k => st.at fun oi e => k it (by simp) oi e
  item := by
    intro X hP hw hK hc i pins s σ H E I hf st hg
    subst hP hw hK
    obtain ⟨f0, f1, f2, f3, f4, f5⟩ := hf it (by simp)
    have hgd := I.kIn _ _ D.at_
    have hx : es[i]? = some es[i] := Array.getElem?_eq_getElem hg
    obtain ⟨k, t, hkey⟩ := hk es[i] (by rw [Array.mem_toList_iff]; exact Array.getElem_mem hg)
    refine next_key_item st hgd rfl rfl hx fun h' st' sb => ?_
    have I1 : Inv X pins σ H { s with heap := h' } := I.turned (t' := s.toks) (fun b ob hb e => (sb.2 b hb).trans e) f0 f1 f3 f4 f5
    obtain ⟨oi, e, c, dd⟩ := id st'
    exact ⟨_, rfl, go_of (s := { s with heap := h' }) e c dd (by decide) ⟨.str k, H, I1, ⟨t, hkey⟩, ⟨rfl, es[i], k, t, hx, hkey, rfl⟩, st', fun b hb => (hf b hb).1⟩⟩
  done := by
    intro X hP hw hK hc i pins s σ H E I hf st hg
    subst hP hw hK
    obtain ⟨f0, f1, f2, f3, f4, f5⟩ := hf it (by simp)
    exact next_key_end (I.ok.hd hc) st (I.kIn _ _ D.at_) rfl rfl hg fun h' eb => ⟨rfl, I.turned (t' := s.toks) (fun b ob hb e => eb b ob hb e) f0 f1 f3 f4 f5⟩
  self := fun A i s Q E st h => wpAny_pyIter_keyiter st h

/-! ### a walk -/
def WkOk (K : KF) (ρ : List Addr) (H : Hp) (w : Walkd) (J : L2.It) : Prop :=
  (∃ a vs, J = Itl K.F a ∧ w.keep = none ∧ Reps K ρ H w.items vs ∧ ((Rd H a (.lst vs) ∧ NI K ρ a) ∨ KLst K.F a vs)) ∨
  (∃ a n, J = Itl K.F a ∧ w.keep = some (n, w.items) ∧ ρ[n]? = some a) ∨
  (∃ a vs, J = Itt K.F a ∧ w.keep = none ∧ SqT K.F H a vs ∧ Reps K ρ H w.items vs) ∨
  (∃ z : Str, J = Its z ∧ w.keep = none ∧ w.items = z.cps.toList.map fun c => .str ⟨#[c]⟩) ∨
  (∃ (lo : Int) (n : Nat), J = Itr lo n ∧ w.keep = none ∧ w.items = (List.range n).map fun (k : Nat) => .int (lo + k)) ∨
  ∃ es kvs, J = Itkd es ∧ w.keep = none ∧ EsOk es.toList kvs ∧ w.items = kvs.map fun p => .str p.1
section
variable {K : KF} {cls : Nat → Addr} {ρ ρ' : List Addr} {H H' : Hp} {S : Sto} {w : Walkd} {J : L2.It}
theorem WkOk.ext (h : WkOk K ρ H w J) (x : Ext ρ H ρ' H') (s : SR K cls ρ S H) : WkOk K ρ' H' w J := by
  rcases h with ⟨a, vs, h1, h2, h3, h4⟩ | ⟨a, n, h1, h2, h3⟩ | ⟨a, vs, h1, h2, h3, h4⟩ | h | h | h
  · refine .inl ⟨a, vs, h1, h2, h3.ext x s, ?_⟩
    rcases h4 with ⟨h4, h5⟩ | h4
    · exact .inl ⟨(x.rd h4 h5.1).1, (x.rd h4 h5.1).2, h5.2⟩
    · exact .inr h4
  · exact .inr (.inl ⟨a, n, h1, h2, x.at_ h3⟩)
  · exact .inr (.inr (.inl ⟨a, vs, h1, h2, x.sqt (fun q => s.notTup q) h3, h4.ext x s⟩))
  · exact .inr (.inr (.inr (.inl h)))
  · exact .inr (.inr (.inr (.inr (.inl h))))
  · exact .inr (.inr (.inr (.inr (.inr h))))
theorem WkOk.hid (h : WkOk K ρ H w J) (s : SR K cls ρ S H) {D : Addr} (hD : H D = none) (ws : List V) : WkOk (K.hid D) ρ (upd H D (.lst ws)) w J := by
  rcases h with ⟨a, vs, h1, h2, h3, h4⟩ | ⟨a, n, h1, h2, h3⟩ | ⟨a, vs, h1, h2, h3, h4⟩ | h | h | h
  · refine .inl ⟨a, vs, h1, h2, Reps.new hD s h3, ?_⟩
    rcases h4 with ⟨h4, h5⟩ | h4
    · have x : Ext ρ H ρ (upd H D (.lst ws)) := Ext.fresh hD
      refine .inl ⟨(x.rd h4 h5.1).1, h5.1, fun m => ?_⟩
      rcases List.mem_cons.mp m with m | m
      · rcases h4 with q | ⟨o, q⟩ <;> rw [m, hD] at q <;> cases q
      · exact h5.2 m
    · exact .inr h4
  · exact .inr (.inl ⟨a, n, h1, h2, h3⟩)
  · exact .inr (.inr (.inl ⟨a, vs, h1, h2, (Ext.fresh (ρ := ρ) hD).sqt (fun q => s.notTup q) (K := K) h3, Reps.new hD s h4⟩))
  · exact .inr (.inr (.inr (.inl h)))
  · exact .inr (.inr (.inr (.inr (.inl h))))
  · exact .inr (.inr (.inr (.inr (.inr h))))
theorem WkOk.wr {D : Addr} {vs ws : List V} (h : WkOk (K.hid D) ρ H w J) (hD : H D = some (.lst vs)) : WkOk (K.hid D) ρ (upd H D (.lst ws)) w J := by
  rcases h with ⟨a, us, h1, h2, h3, h4⟩ | ⟨a, n, h1, h2, h3⟩ | ⟨a, us, h1, h2, h3, h4⟩ | h | h | h
  · refine .inl ⟨a, us, h1, h2, Reps.wr hD h3, ?_⟩
    rcases h4 with ⟨h4, h5⟩ | h4
    · have : a ≠ D := fun z => h5.2 (by rw [z]; exact List.mem_cons_self)
      refine .inl ⟨?_, h5⟩
      rcases h4 with q | ⟨o, q⟩
      · exact .inl (by rw [upd_ne this]; exact q)
      · exact .inr ⟨o, by rw [upd_ne this]; exact q⟩
    · exact .inr h4
  · exact .inr (.inl ⟨a, n, h1, h2, h3⟩)
  · refine .inr (.inr (.inl ⟨a, us, h1, h2, ?_, Reps.wr hD h4⟩))
    rcases h3 with q | q
    · exact .inl (rd_upd hD nofun q)
    · exact .inr q
  · exact .inr (.inr (.inr (.inl h)))
  · exact .inr (.inr (.inr (.inr (.inl h))))
  · exact .inr (.inr (.inr (.inr (.inr h))))
open Classical in
theorem still_at {w : Walkd} {S : Sto} {n : Nat} {xs : List D} (h : w.still S = true) (k : w.keep = some (n, xs)) : S[n]? = some (.lst xs) := by
  unfold Walkd.still at h
  rw [k] at h
  exact of_decide_eq_true h
theorem WkOk.use (h : WkOk K ρ H w J) (s : SR K cls ρ S H) (st : w.still S = true) (i : Nat) :
    (∀ d, w.items[i]? = some d → J.go i H ∧ ∀ x H', J.yld i H x H' → H' = H ∧ Rep K ρ H d x) ∧ (w.items.length ≤ i → J.stop i H) := by
  have lst : ∀ a vs, J = Itl K.F a → Reps K ρ H w.items vs → SqL K.F H a vs → (∀ d, w.items[i]? = some d → J.go i H ∧ ∀ x H', J.yld i H x H' → H' = H ∧ Rep K ρ H d x) ∧ (w.items.length ≤ i → J.stop i H) := by
    intro a vs e r q
    subst e
    refine ⟨fun d hd => ?_, fun hl => ⟨vs, q, by rw [Reps.len r]; exact hl⟩⟩
    obtain ⟨v, g, rv⟩ := Reps.get r hd
    refine ⟨⟨vs, v, q, g⟩, fun x H' ⟨e, y⟩ => ⟨e, ?_⟩⟩
    have := y vs q
    rw [g] at this
    rw [← Option.some.inj this]; exact rv
  rcases h with ⟨a, vs, h1, h2, h3, h4⟩ | ⟨a, n, h1, h2, h3⟩ | ⟨a, vs, h1, h2, h3, h4⟩ | ⟨z, h1, h2, h3⟩ | ⟨lo, n, h1, h2, h3⟩ | ⟨es, kvs, h1, h2, h3, h4⟩
  · refine lst a vs h1 h3 ?_
    rcases h4 with ⟨h4, _⟩ | h4
    · exact .inl h4
    · exact .inr h4
  · obtain ⟨vs, e, r⟩ := s.lst n _ a (still_at st h2) h3
    exact lst a vs h1 r (SqL.of e)
  · subst h1
    refine ⟨fun d hd => ?_, fun hl => ⟨vs, h3, by rw [Reps.len h4]; exact hl⟩⟩
    obtain ⟨v, g, rv⟩ := Reps.get h4 hd
    refine ⟨⟨vs, v, h3, g⟩, fun x H' ⟨e, y⟩ => ⟨e, ?_⟩⟩
    have := y vs h3
    rw [g] at this
    rw [← Option.some.inj this]; exact rv
  · subst h1
    have hz : z.cps.toList.length = z.cps.size := by simp
    refine ⟨fun d hd => ?_, fun hl => by rw [h3, List.length_map, hz] at hl; exact hl⟩
    rw [h3, List.getElem?_map, Option.map_eq_some_iff] at hd
    obtain ⟨c, hc, rfl⟩ := hd
    refine ⟨?_, fun x H' ⟨e, c', hc', ex⟩ => ⟨e, ?_⟩⟩
    · have := (List.getElem?_eq_some_iff.mp hc).1
      show i < z.cps.size
      rw [← hz]; exact this
    · rw [← Array.getElem?_toList, hc] at hc'
      cases hc'
      subst ex
      exact rep_str
  · subst h1
    refine ⟨fun d hd => ?_, fun hl => by rw [h3, List.length_map, List.length_range] at hl; exact hl⟩
    rw [h3, List.getElem?_map, Option.map_eq_some_iff] at hd
    obtain ⟨c, hc, rfl⟩ := hd
    obtain ⟨hl, hc⟩ := List.getElem?_eq_some_iff.mp hc
    rw [List.getElem_range] at hc
    subst hc
    rw [List.length_range] at hl
    refine ⟨hl, fun x H' ⟨e, ex⟩ => ⟨e, ?_⟩⟩
    subst ex
    exact rep_int
  · subst h1
    obtain ⟨l, a⟩ := esOk_at h3
    have hz : es.toList.length = es.size := by simp
    refine ⟨fun d hd => ?_, fun hl => by rw [h4, List.length_map, ← l, hz] at hl; exact hl⟩
    rw [h4, List.getElem?_map, Option.map_eq_some_iff] at hd
    obtain ⟨c, hc, rfl⟩ := hd
    refine ⟨?_, fun x H' ⟨e, en, k, t, h5, h6, ex⟩ => ⟨e, ?_⟩⟩
    · have := (List.getElem?_eq_some_iff.mp hc).1
      show i < es.size
      rw [← hz, l]; exact this
    · obtain ⟨k', v', t', q1, q2⟩ := a i en (by rw [Array.getElem?_toList]; exact h5)
      rw [hc] at q1
      cases q1
      rw [q2] at h6
      cases h6
      subst ex
      exact rep_str
end

/-! ### the walk of a value -/
section
variable {T : Tab} {N : List Str} {ad : Ad} {cfg : Cfg} {kd : KD} {k : Nat}
/-- what is wished of an iterator -/
def tIt (ad : Ad) (K : KF) (cfg : Cfg) (W : WX) (m : It) : TI := fun σ H R =>
  ∃ ρ S env, SR K ad.cls ρ S H ∧ Sig K ρ H env σ ∧ Out K ad.cls (evIt cfg m env S) ρ H (fun w _ ρ' H' => ∀ J, WkOk K ρ' H' w J → R J H') (ExX ad K fun c d J => W c d σ J)
theorem _root_.L2.PI.imp {X : Cx} {tg iter : Expr} {t t' : TI} (h : PI X tg iter t) (i : ∀ σ H R, t' σ H R → t σ H R) : PI X tg iter t' := ⟨fun pins s σ H R I q => h.run pins s σ H R I (i σ H R q)⟩
def HI (T : Tab) (N : List Str) (ad : Ad) (cfg : Cfg) (kd : KD) (k : Nat) (m : It) : Prop :=
  ∀ {X : Cx} {W : WX} {sc : Scope} {tg e : Expr}, Gd T N ad cfg kd k X W → X.env.scope = sc → chIt T N sc m e = true → PI X tg e (tIt ad ⟨X.K, kd⟩ cfg W m) ∧ noSet e = true
/-- an iterator of a value -/
def iVal (K : PySem.W.Frag) (te : TE) : TI := fun σ H R => te σ H fun v H1 =>
  (∃ a, v = .ref a ∧ (∃ xs, SqL K H1 a xs) ∧ R (Itl K a) H1) ∨ (∃ a, v = .ref a ∧ (∃ xs, SqT K H1 a xs) ∧ R (Itt K a) H1) ∨ ∃ x, v = .str x ∧ R (Its x) H1
theorem pi_val {X : Cx} {tg e : Expr} {te : TE} (he : PE X e te) : PI X tg e (iVal X.K te) := by
  refine ⟨fun pins s σ H R I h => ?_⟩
  refine thn (he.run pins s σ H _ I h) fun v s1 ⟨x, H1, I1, r1, q1⟩ => ?_
  rcases q1 with ⟨a, ex, ⟨xs, hq⟩, q⟩ | ⟨a, ex, ⟨xs, hq⟩, q⟩ | ⟨z, ex, q⟩
  · subst ex
    cases r1
    obtain ⟨its, rv, p, hz⟩ := I1.list hq
    exact wpAny_pyIter_list p.isList (pi_one (tk := s1.toks) I1 _ (turn_list a _) ⟨_, Heap.get?_push_size _ rfl, rfl, rfl⟩ q)
  · subst ex
    cases r1
    obtain ⟨its, rv, p, hz⟩ := I1.tuple hq
    exact wpAny_pyIter_tuple (show s1.heap.IsTuple a its.toArray from p) (pi_one (tk := s1.toks) I1 _ (turn_tuple a _) ⟨_, Heap.get?_push_size _ rfl, rfl, rfl⟩ q)
  · subst ex
    obtain ⟨t, rfl⟩ := r1
    cases ha : z.cps.all (· < 128)
    · exact wpAny_pyIter_wide ha (pi_one (tk := s1.toks) I1 _ (turn_str _ z t "str_iterator" (.inr rfl)) ⟨_, Heap.get?_push_size _ rfl, rfl, rfl⟩ q)
    · exact wpAny_pyIter_ascii ha (pi_one (tk := s1.toks) I1 _ (turn_str _ z t "str_ascii_iterator" (.inl rfl)) ⟨_, Heap.get?_push_size _ rfl, rfl, rfl⟩ q)
theorem hi_of {a : E} (ha : HE T N ad cfg kd k a) : HI T N ad cfg kd k (.of a) := by
  intro X W sc tg e g hs h
  simp only [chIt, Bool.and_eq_true] at h
  refine ⟨(pi_val (ha (W := W) g hs h.1)).imp fun σ H R ⟨ρ, S, env, sr, sg, out⟩ => ?_, h.2⟩
  unfold evIt at out
  refine tE_bind sr sg out (fun _ _ _ _ _ h => h) fun d1 S1 ρ1 H1 v1 x1 s1 g1 r1 o1 => ?_
  obtain ⟨w, hw, q⟩ := out_rOpt o1
  have q := q ρ1 H1 Ext.refl s1
  unfold itOf at hw
  split at hw <;> try (cases hw; done)
  · cases hw
    unfold Rep at r1
    obtain ⟨a, vs, rfl, e1, n1, r2⟩ := r1
    exact .inl ⟨a, rfl, ⟨vs, SqL.of e1⟩, q _ (.inl ⟨a, vs, rfl, rfl, r2, .inl ⟨.inl e1, n1⟩⟩)⟩
  · cases hw
    obtain ⟨a, vs, rfl, e1, r2⟩ := rep_tup_of r1
    exact .inr (.inl ⟨a, rfl, ⟨vs, e1⟩, q _ (.inr (.inr (.inl ⟨a, vs, rfl, rfl, e1, r2⟩)))⟩)
  · cases hw
    unfold Rep at r1
    obtain ⟨a, rfl, e1⟩ := r1
    have sq : ∃ xs, SqL X.K H1 a xs := by
      rcases e1 with ⟨e1, _⟩ | e1
      · exact ⟨_, .inl e1⟩
      · exact ⟨_, .inr e1⟩
    exact .inl ⟨a, rfl, sq, q _ (.inl ⟨a, _, rfl, rfl, Reps.ints, e1⟩)⟩
  · cases hw
    exact .inr (.inr ⟨_, rep_str_of r1, q _ (.inr (.inr (.inr (.inl ⟨_, rfl, rfl, rfl⟩))))⟩)
  · split at hw
    · rename_i n _ xs hn
      cases hw
      obtain ⟨a, vs, rfl, g2, e2, r2⟩ := loc_at s1 r1 hn
      exact .inl ⟨a, rfl, ⟨vs, SqL.of e2⟩, q _ (.inr (.inl ⟨a, n, rfl, rfl, g2⟩))⟩
    · cases hw
theorem hi_keys {i : Nat} : HI T N ad cfg kd k (.keys i) := by
  intro X W sc tg e g hs h
  cases e <;> try (exact Bool.noConfusion (show false = true from h))
  rename_i x pos
  simp only [chIt, Bool.and_eq_true, decide_eq_true_eq] at h
  obtain ⟨⟨h1, h2⟩, h3⟩ := h
  obtain ⟨u, v, hm, rv, rep⟩ := g.fx.gls _ _ h1
  refine ⟨⟨fun pins s σ H R I ⟨ρ, S, env, sr, sg, out⟩ => ?_⟩, rfl⟩
  unfold evIt at out
  cases q : cfg.glb i with
  | dct kvs =>
    rw [q] at out
    have r0 := rep [] [] fun _ => none
    rw [q] at r0
    unfold Rep at r0
    obtain ⟨a, rfl, z⟩ := r0
    rcases z with ⟨z, _⟩ | z
    · cases z
    obtain ⟨es, n, D, ok⟩ := g.fx.dts _ _ z
    cases rv
    refine ld_glob I (gl_of hs h2) hm ?_ (nmOk_d h3)
    refine iter_keys D.low (I.kIn _ _ D.at_) ⟨rfl, rfl, rfl⟩ rfl ?_
    refine pi_one (tk := s.toks) I _ (turn_kd D (fun en hen => ?_) _) ⟨_, Heap.get?_push_size _ rfl, rfl, rfl⟩ (out ρ H Ext.refl sr _ (.inr (.inr (.inr (.inr (.inr ⟨es, kvs, rfl, rfl, ok, rfl⟩))))))
    obtain ⟨j, hj, e1⟩ := List.mem_iff_getElem.mp hen
    obtain ⟨k', v', t', _, q2⟩ := (esOk_at ok).2 j en (by rw [List.getElem?_eq_getElem hj, e1])
    exact ⟨k', t', q2⟩
  | _ => rw [q] at out; exact False.elim out
theorem reps_two {K : KF} {ρ : List Addr} {H : Hp} {i j : Int} {vs : List V} (h : Reps K ρ H [.int i, .int j] vs) : vs = [.int i, .int j] := by
  obtain ⟨x, y, rfl, h1, h2⟩ := reps2 h
  rw [rep_int_of h1, rep_int_of h2]
theorem hi_rng1 {m : E} (ha : HE T N ad cfg kd k m) : HI T N ad cfg kd k (.rng1 m) := by
  intro X W sc tg e g hs h
  cases e <;> try (exact Bool.noConfusion (show false = true from h))
  rename_i f es kws pos
  cases f <;> try (exact Bool.noConfusion (show false = true from h))
  rcases es with _ | ⟨a, _ | ⟨b, _⟩⟩ <;> try (exact Bool.noConfusion (show false = true from h))
  cases kws <;> try (exact Bool.noConfusion (show false = true from h))
  rename_i x p
  simp only [chIt, Bool.and_eq_true, decide_eq_true_eq] at h
  obtain ⟨⟨⟨h1, h2⟩, h3⟩, h4⟩ := h
  subst h1
  refine ⟨(pi_range1 (gl_of hs h2) (g.fx.blt _ (by decide)) (pa_cons (ha (W := W) g hs h3) pa_nil (starEach_of h4)) (starEach_of h4)).imp fun σ H R ⟨ρ, S, env, sr, sg, out⟩ => ?_, rfl⟩
  unfold evIt at out
  refine tE_bind sr sg out (fun _ _ _ _ _ h => h) fun d1 S1 ρ1 H1 v1 x1 s1 g1 r1 o1 => ?_
  obtain ⟨w, hw, q⟩ := out_rOpt o1
  cases d1 <;> simp only [rangeOf, reduceCtorEq] at hw
  split at hw
  · rename_i hj
    cases hw
    refine ⟨_, by rw [rep_int_of r1], hj.1, hj.2, q ρ1 H1 Ext.refl s1 _ (.inr (.inr (.inr (.inr (.inl ⟨0, _, rfl, rfl, ?_⟩)))))⟩
    simp
  · cases hw
theorem hi_rng2 {m n : E} (ha : HE T N ad cfg kd k m) (hb : HE T N ad cfg kd k n) : HI T N ad cfg kd k (.rng2 m n) := by
  intro X W sc tg e g hs h
  cases e <;> try (exact Bool.noConfusion (show false = true from h))
  rename_i f es kws pos
  cases f <;> try (exact Bool.noConfusion (show false = true from h))
  rcases es with _ | ⟨a, _ | ⟨b, _ | ⟨_, _⟩⟩⟩ <;> try (exact Bool.noConfusion (show false = true from h))
  cases kws <;> try (exact Bool.noConfusion (show false = true from h))
  rename_i x p
  simp only [chIt, Bool.and_eq_true, decide_eq_true_eq] at h
  obtain ⟨⟨⟨⟨⟨h1, h2⟩, h3⟩, h5⟩, h4⟩, h6⟩ := h
  subst h1
  refine ⟨(pi_range2 (gl_of hs h2) (g.fx.blt _ (by decide)) (pa_cons (ha (W := W) g hs h3) (pa_cons (hb (W := W) g hs h5) pa_nil (starEach_of h6)) (starEach_of h4)) (by rw [starEach_of h4, starEach_of h6]; rfl) (starEach_of h6)).imp fun σ H R ⟨ρ, S, env, sr, sg, out⟩ => ?_, rfl⟩
  unfold evIt at out
  refine tE_bind sr sg out (fun _ _ _ _ _ h => h) fun d1 S1 ρ1 H1 v1 x1 s1 g1 r1 o1 => ?_
  refine tE_bind s1 g1 o1 (fun _ _ _ _ _ h => h) fun d2 S2 ρ2 H2 v2 x2 s2 g2 r2 o2 => ?_
  obtain ⟨w, hw, q⟩ := out_rOpt o2
  cases d1 <;> cases d2 <;> simp only [rangeOf, reduceCtorEq] at hw
  split at hw
  · rename_i hj
    cases hw
    exact ⟨_, _, by rw [rep_int_of r1, rep_int_of r2], hj, q ρ2 H2 Ext.refl s2 _ (.inr (.inr (.inr (.inr (.inl ⟨_, _, rfl, rfl, rfl⟩)))))⟩
  · cases hw
end
end MP

set_option linter.all false
set_option maxRecDepth 100000
set_option maxHeartbeats 4000000
/-! MiniPy, 16: list comprehensions. -/
namespace MP
open PySem PySem.Spec PyProof.Rows L2

theorem bind_assoc {α β γ : Type} (r : R α) (f : α → Sto → R β) (g : β → Sto → R γ) : (r.bind f).bind g = r.bind fun a S => (f a S).bind g := by
  cases r <;> rfl
theorem bind_ok {α β : Type} (a : α) (S : Sto) (f : α → Sto → R β) : (R.ok a S).bind f = f a S := rfl
theorem wipe_get (σ : L2.St) (j : Nat) : ∀ vs : List Nat, (wipe σ vs)[j]? = if j ∈ vs then (if j < σ.length then some none else none) else σ[j]?
  | [] => by simp [wipe]
  | v :: vs => by
    unfold wipe
    by_cases q : j = v
    · subst q
      rw [if_pos List.mem_cons_self]
      by_cases hl : j < σ.length
      · rw [if_pos hl, List.getElem?_set_self (by rw [wipe_length]; exact hl)]
      · rw [if_neg hl, List.getElem?_eq_none]
        rw [List.length_set, wipe_length]; omega
    · rw [List.getElem?_set_ne (Ne.symm q), wipe_get σ j vs]
      simp only [List.mem_cons, q, false_or]
theorem wipe_eq {σ τ : L2.St} {vs : List Nat} (hl : σ.length = τ.length) (h : ∀ j, j ∉ vs → σ[j]? = τ[j]?) : wipe σ vs = wipe τ vs := by
  refine List.ext_getElem? fun j => ?_
  rw [wipe_get, wipe_get, hl]
  split
  · rfl
  · exact h j ‹_›
theorem wipe_wipe (σ : L2.St) (vs : List Nat) : wipe (wipe σ vs) vs = wipe σ vs :=
  wipe_eq (wipe_length σ vs) fun j hj => by rw [wipe_get, if_neg hj]
/-! ### targets -/
def gNms : List Nat → TGs
  | [] => gNil
  | i :: is => gCons (gName i) (gNms is)
def gT (K : PySem.W.Frag) : Tg → TG
  | .nm i => gName i
  | .tup is => gTup K is.length (gNms is)
section
variable {X : Cx} {N : List Str} {sc : Scope} {fr : Bool}
theorem pg_nm {i : Nat} {e : Expr} (hN : X.N = N) (nd : N.Nodup) (hs : X.env.scope = sc) (hf : fr = true → ∀ x, X.fn x = true) (h : nmB fr N sc i e = true) : PG X e (gName i) ∧ (∃ x p, e = .Name x p) := by
  cases e <;> simp only [nmB, Bool.false_eq_true, Bool.and_eq_true, Bool.or_eq_true, decide_eq_true_eq] at h
  refine ⟨?_, _, _, rfl⟩
  obtain ⟨h1, h2⟩ := h
  subst hN hs
  rcases h2 with h2 | ⟨h2, h3⟩
  · exact pg_name nd h1 (.inl (isB_of h2)) (.inr (isB_of h2))
  · exact pg_name nd h1 (.inr (isB_of h3)) (.inl (hf h2 _))
theorem pg_nms (hN : X.N = N) (nd : N.Nodup) (hs : X.env.scope = sc) (hf : fr = true → ∀ x, X.fn x = true) : ∀ {is : List Nat} {es : List Expr}, tgsB fr N sc is es = true →
    PGs X es (gNms is) ∧ (assignEach es X.env).length = is.length ∧ (assignEach es X.env).findIdx? (·.1) = none
  | [], [], _ => ⟨pgs_nil, rfl, rfl⟩
  | i :: is, e :: es, h => by
    unfold tgsB at h
    rw [Bool.and_eq_true] at h
    obtain ⟨h1, x, p, rfl⟩ := pg_nm hN nd hs hf h.1
    obtain ⟨h2, h3, h4⟩ := pg_nms hN nd hs hf h.2
    refine ⟨pgs_cons h1 h2 rfl, ?_, ?_⟩
    · show (_ :: assignEach es X.env).length = _
      rw [List.length_cons, List.length_cons, h3]
    · show (((false, assign (.Name x p) X.env) :: assignEach es X.env) : List _).findIdx? (·.1) = none
      rw [List.findIdx?_cons, h4]; rfl
  | [], _ :: _, h => Bool.noConfusion (show false = true from h)
  | _ :: _, [], h => Bool.noConfusion (show false = true from h)
theorem pg_tg {tg : Tg} {e : Expr} (hN : X.N = N) (nd : N.Nodup) (hs : X.env.scope = sc) (hc : X.calm = true) (hf : fr = true → ∀ x, X.fn x = true) (h : tgB fr N sc tg e = true) : PG X e (gT X.K tg) := by
  cases tg with
  | nm i => exact (pg_nm hN nd hs hf h).1
  | tup is =>
    cases e <;> try (exact Bool.noConfusion (show false = true from h))
    obtain ⟨h1, h2, h3⟩ := pg_nms hN nd hs hf (show tgsB fr N sc is _ = true from h)
    exact pg_tup hc h1 h2 h3
end
section
variable {K : KF} {cls : Nat → Addr} {ρ ρ' : List Addr} {H H' : Hp} {S : Sto} {env : Env} {σ : L2.St}
/-- the slots that a target sets -/
def Tg.ix : Tg → List Nat
  | .nm i => [i]
  | .tup is => is
theorem gNms_set : ∀ {is : List Nat} {ds : List D} {vs : List V} {env : Env} {σ : L2.St} {Q : L2.St → Hp → Prop}, Reps K ρ H ds vs → ds.length = is.length → Sig K ρ H env σ →
    (∀ σ2, Sig K ρ H ((is.zip ds).foldl (fun e p => e.set p.1 (some p.2)) env) σ2 → σ2.length = σ.length → (∀ j, j ∉ is → σ2[j]? = σ[j]?) → Q σ2 H) → gNms is vs σ H Q
  | [], [], vs, env, σ, Q, r, _, g, q => by
    unfold Reps at r
    exact ⟨r, q σ g rfl fun _ _ => rfl⟩
  | i :: is, d :: ds, vs, env, σ, Q, r, hl, g, q => by
    unfold Reps at r
    obtain ⟨v, vs, rfl, r1, r2⟩ := r
    refine ⟨v, vs, rfl, ?_⟩
    refine gNms_set r2 (by simpa using hl) (g.set i r1) fun σ2 g2 h1 h2 => q σ2 g2 (by rw [h1, List.length_set]) fun j hj => ?_
    simp only [List.mem_cons, not_or] at hj
    rw [h2 j hj.2, List.getElem?_set_ne (Ne.symm hj.1)]
  | [], _ :: _, _, _, _, _, _, hl, _, _ => by simp at hl
  | _ :: _, [], _, _, _, _, _, hl, _, _ => by simp at hl
theorem gT_set {tg : Tg} {d : D} {v : V} {e1 : Env} {Q : L2.St → Hp → Prop} (r : Rep K ρ H d v) (hb : bindTg tg env d = some e1) (g : Sig K ρ H env σ)
    (q : ∀ σ2, Sig K ρ H e1 σ2 → σ2.length = σ.length → (∀ j, j ∉ tg.ix → σ2[j]? = σ[j]?) → Q σ2 H) : gT K.F tg v σ H Q := by
  cases tg with
  | nm i =>
    cases hb
    refine q _ (g.set i r) (by rw [List.length_set]) fun j hj => ?_
    simp only [Tg.ix, List.mem_singleton] at hj
    rw [List.getElem?_set_ne (Ne.symm hj)]
  | tup is =>
    unfold bindTg at hb
    dsimp only at hb
    split at hb
    · split at hb
      · rename_i hl
        cases hb
        obtain ⟨a, vs, rfl, k, rs⟩ := rep_tup_of r
        exact ⟨a, vs, rfl, k, by rw [Reps.len rs]; exact hl, gNms_set rs hl g q⟩
      · cases hb
    · cases hb
/-! ### a hidden list shown as a location -/
mutual
theorem Rep.adopt {D : Addr} : ∀ {d : MP.D} {v : V}, Rep (K.hid D) ρ H d v → Rep K (ρ ++ [D]) H d v
  | .non, _, r => r
  | .bl _, _, r => r
  | .int _, _, r => r
  | .str _, _, r => r
  | .tup ds, _, r => by
    unfold Rep at r ⊢
    obtain ⟨a, vs, e, q, r⟩ := r
    exact ⟨a, vs, e, q, Reps.adopt r⟩
  | .lst ds, _, r => by
    unfold Rep at r ⊢
    obtain ⟨a, vs, e, q, n, r⟩ := r
    exact ⟨a, vs, e, q, NI.adopt n, Reps.adopt r⟩
  | .scr ns, _, r => by
    unfold Rep at r ⊢
    obtain ⟨a, e, q⟩ := r
    refine ⟨a, e, ?_⟩
    rcases q with ⟨q, n⟩ | q
    · exact .inl ⟨q, NI.adopt n⟩
    · exact .inr q
  | .loc n, _, r => by
    unfold Rep at r ⊢
    obtain ⟨a, e, q⟩ := r
    exact ⟨a, e, by rw [List.getElem?_append_left (List.getElem?_eq_some_iff.mp q).1]; exact q⟩
  | .dct kvs, _, r => by
    unfold Rep at r ⊢
    obtain ⟨a, e, q⟩ := r
    refine ⟨a, e, ?_⟩
    rcases q with ⟨q, n⟩ | q
    · exact .inl ⟨q, NI.adopt n⟩
    · exact .inr q
theorem Reps.adopt {D : Addr} : ∀ {ds : List MP.D} {vs : List V}, Reps (K.hid D) ρ H ds vs → Reps K (ρ ++ [D]) H ds vs
  | [], _, r => by unfold Reps at r ⊢; exact r
  | d :: ds, _, r => by
    unfold Reps at r ⊢
    obtain ⟨v, vs, e, h1, h2⟩ := r
    exact ⟨v, vs, e, Rep.adopt h1, Reps.adopt h2⟩
theorem NI.adopt {D a : Addr} (n : NI (K.hid D) ρ a) : NI K (ρ ++ [D]) a := by
  refine ⟨fun m => ?_, fun m => n.2 (List.mem_cons_of_mem _ m)⟩
  rcases List.mem_append.mp m with m | m
  · exact n.1 m
  · exact n.2 (by rw [List.mem_singleton.mp m]; exact List.mem_cons_self)
end
theorem SR.adopt {D : Addr} (s : SR (K.hid D) cls ρ S H) (hx : D ∉ K.kd.ex) {ds : List MP.D} {vs : List V} (h : H D = some (.lst vs)) (r : Reps (K.hid D) ρ H ds vs) : SR K cls (ρ ++ [D]) (S ++ [.lst ds]) H := by
  have nD : D ∉ ρ := (s.exo D List.mem_cons_self).1
  have at_ : ∀ {n : Nat} {a : Addr}, (ρ ++ [D])[n]? = some a → (ρ[n]? = some a ∧ n < ρ.length) ∨ (a = D ∧ n = ρ.length) := fun {n a} g => by
    by_cases hn : n < ρ.length
    · rw [List.getElem?_append_left hn] at g; exact .inl ⟨g, hn⟩
    · have := (List.getElem?_eq_some_iff.mp g).1
      simp at this
      have e : n = ρ.length := by omega
      subst e
      simp at g
      exact .inr ⟨g.symm, rfl⟩
  refine ⟨by simp [s.len], ?_, fun n es a hn g => ?_, fun n c fs a hn g => ?_, fun a m => ⟨fun q => ?_, (s.exo a (List.mem_cons_of_mem _ m)).2⟩⟩
  · rw [List.nodup_append]
    exact ⟨s.nd, by simp, fun a ha b hb => by simp at hb; subst hb; intro e; subst e; exact nD ha⟩
  · rcases at_ g with ⟨g, hl⟩ | ⟨rfl, e⟩
    · rw [List.getElem?_append_left (by rw [← s.len]; exact hl)] at hn
      obtain ⟨us, e, q⟩ := s.lst n es a hn g
      exact ⟨us, e, Reps.adopt q⟩
    · have e2 : n = S.length := by rw [e, s.len]
      rw [e2, List.getElem?_append_right (Nat.le_refl _)] at hn
      simp at hn
      subst hn
      exact ⟨vs, h, Reps.adopt r⟩
  · rcases at_ g with ⟨g, hl⟩ | ⟨rfl, e⟩
    · rw [List.getElem?_append_left (by rw [← s.len]; exact hl)] at hn
      obtain ⟨dx, gs, e, e2, q, nd⟩ := s.ins n c fs a hn g
      exact ⟨dx, gs, e, e2, Reps.adopt q, nd⟩
    · have e2 : n = S.length := by rw [e, s.len]
      rw [e2, List.getElem?_append_right (Nat.le_refl _)] at hn
      simp at hn
  · rcases List.mem_append.mp q with q | q
    · exact (s.exo a (List.mem_cons_of_mem _ m)).1 q
    · exact hx (by rw [← List.mem_singleton.mp q]; exact m)
theorem Ext.snoc {D : Addr} (x : Ext ρ H ρ' H') (h : H D = none) : Ext ρ H (ρ' ++ [D]) H' := by
  obtain ⟨t, e⟩ := x.pre
  refine ⟨⟨t ++ [D], by rw [e, List.append_assoc]⟩, x.per, fun a m n => ?_⟩
  rcases List.mem_append.mp m with m | m
  · exact x.new a m n
  · rw [List.mem_singleton.mp m]; exact h
theorem Ext.wr {D : Addr} {o : L2.HO} (x : Ext ρ H ρ' H') (h : H D = none) : Ext ρ H ρ' (upd H' D o) :=
  ⟨x.pre, fun a u e n => by rw [upd_ne (ne_of_none e h)]; exact x.per a u e n, x.new⟩
/-- a part's outcome, the list under way hidden -/
theorem Out.hidden {α β : Type} {D : Addr} {r : R α} {f : α → Sto → R β} {ρ1 : List Addr} {H1 : Hp} {Q : β → Sto → List Addr → Hp → Prop} {XX XX' : Nat → MP.D → Sto → List Addr → Hp → Prop}
    (h : Out K cls (r.bind f) ρ1 H1 Q XX) (x : Ext ρ1 H1 ρ H) (hX : ∀ c m S ρ' H', XX c m S ρ' H' → XX' c m S ρ' H') :
    Out (K.hid D) cls r ρ H (fun a S ρ' H' => Out K cls (f a S) ρ1 H1 Q XX ∧ Ext ρ1 H1 ρ' H') XX' := by
  cases r with
  | ok a S => exact fun ρ' H' y s => ⟨h, x.trans y⟩
  | exc c m S => exact fun ρ' H' y s => hX _ _ _ _ _ (h ρ' H' (x.trans y) s.unhid)
  | bad => exact h
end
end MP

set_option linter.all false
set_option maxRecDepth 100000
set_option maxHeartbeats 4000000
/-! MiniPy, 17: list comprehensions, run. -/
namespace MP
open PySem PySem.Spec PyProof.Rows L2

section
variable {T : Tab} {N : List Str} {ad : Ad} {cfg : Cfg} {kd : KD} {k : Nat}
def tXE (ad : Ad) (F : PySem.W.Frag) (pr : Addr → List (Str × Str) → Prop) (cfg : Cfg) (W : WX) (m : E) : TE := fun σ H Q => ∃ ex, tE ad ⟨F, ⟨pr, ex⟩⟩ cfg W m σ H Q
def tEb (ad : Ad) (K : KF) (cfg : Cfg) (W : WX) (m : Eo) : TT := fun σ H Q =>
  ∃ ρ S env, SR K ad.cls ρ S H ∧ Sig K ρ H env σ ∧ Out K ad.cls (evEb cfg m env S) ρ H (fun d _ ρ' H' => Q d H') (ExX ad K fun c d J => W c d σ J)
def tXB (ad : Ad) (F : PySem.W.Frag) (pr : Addr → List (Str × Str) → Prop) (cfg : Cfg) (W : WX) (m : Eo) : TT := fun σ H Q => ∃ ex, tEb ad ⟨F, ⟨pr, ex⟩⟩ cfg W m σ H Q
def chB (T : Tab) (N : List Str) (sc : Scope) : Eo → List Expr → Bool
  | .none, [] => true
  | .some q, [x] => chE T N sc q x && tOk q x
  | _, _ => false
def HB (T : Tab) (N : List Str) (ad : Ad) (cfg : Cfg) (kd : KD) (k : Nat) (m : Eo) : Prop :=
  ∀ {X : Cx} {W : WX} {sc : Scope} {e : List Expr}, Gd T N ad cfg kd k X W → X.env.scope = sc → chB T N sc m e = true → PTs X e (tEb ad ⟨X.K, kd⟩ cfg W m)
theorem hb_none : HB T N ad cfg kd k .none := by
  intro X W sc e g hs h
  cases e with
  | nil => exact ⟨fun pins s σ H Q I ⟨ρ, S, env, sr, sg, out⟩ => pts_nil.run pins s σ H Q I (out ρ H Ext.refl sr)⟩
  | cons _ _ => cases h
theorem hb_some {a : E} (ha : HT T N ad cfg kd k a) : HB T N ad cfg kd k (.some a) := by
  intro X W sc e g hs h
  rcases e with _ | ⟨x, _ | ⟨_, _⟩⟩ <;> try (cases h; done)
  simp only [chB, Bool.and_eq_true] at h
  refine ⟨fun pins s σ H Q I ⟨ρ, S, env, sr, sg, out⟩ => (pts_one (ha (W := W) g hs h.1 h.2).1).run pins s σ H Q I ?_⟩
  unfold evEb at out
  refine tE_bind sr sg out (fun _ _ _ _ _ h => h) fun d1 S1 ρ1 H1 v1 x1 s1 g1 r1 o1 => ?_
  cases d1 with
  | bl b => exact ⟨b, rep_bl_of' r1, o1 ρ1 H1 Ext.refl s1⟩
  | _ => exact False.elim o1
/-- a turn of a comprehension -/
noncomputable def cTurn (cfg : Cfg) (elt : E) (tg : Tg) (ifs : Eo) (env : Env) (d : D) (S2 : Sto) : R (Option D) :=
  match bindTg tg env d with
  | some e1 => (evEb cfg ifs e1 S2).bind fun k S3 => if k = true then (evE cfg elt e1 S3).bind fun x S4 => .ok (some x) S4 else .ok none S3
  | none => .bad
noncomputable def cFin (w : Walkd) (mu : Bool) (xs : List D) (S2 : Sto) : R D :=
  if w.still S2 = true then (if mu then .ok (.loc S2.length) (S2 ++ [.lst xs]) else .ok (.lst xs) S2) else .bad
theorem comp_t {F : PySem.W.Frag} {pr : Addr → List (Str × Str) → Prop} {ex : List Addr} {W : WX} {mu : Bool} {elt : E} {tg : Tg} {it : It} {ifs : Eo} {own : List Nat} {σ : L2.St} {H : Hp} {Q : VK} (hown : ∀ j ∈ tg.ix, j ∈ own)
    (h : tE ad ⟨F, ⟨pr, ex⟩⟩ cfg W (.comp mu elt tg it ifs own) σ H Q) :
    tLc (tIt ad ⟨F, ⟨pr, ex⟩⟩ cfg W it) (gT F tg) (tXB ad F pr cfg (fun c d _ J => W c d σ J) ifs) (tXE ad F pr cfg (fun c d _ J => W c d σ J) elt) own σ H Q := by
  obtain ⟨ρ, S, env, sr, sg, out⟩ := h
  unfold evE at out
  refine ⟨ρ, S, env, sr, sg, (Out.bind out).mono (fun w S1 ρ1 H1 x1 s1 o1 J wk => ?_) fun _ _ _ _ _ _ _ h => h⟩
  intro D hD
  split at o1
  rotate_left
  · exact False.elim o1
  rename_i hz
  have o1 : Out ⟨F, ⟨pr, ex⟩⟩ ad.cls ((compL w (cTurn cfg elt tg ifs (wipeE env own)) w.items S1).bind (cFin w mu)) ρ1 H1 (fun d S ρ' H' => ∀ v, Rep ⟨F, ⟨pr, ex⟩⟩ ρ' H' d v → Q v H') (ExX ad ⟨F, ⟨pr, ex⟩⟩ fun c d J => W c d σ J) := o1
  have nex : D ∉ ex := fun m => by
    obtain ⟨_, vs, e⟩ := s1.exo D m
    rw [hD] at e; cases e
  have sg1 := sg.ext x1 sr
  refine ⟨fun i m H => m = w.items.length - i ∧ i ≤ w.items.length ∧ ∃ ρ2 S2 accD acc, Ext ρ1 H1 ρ2 H ∧ SR ⟨F, ⟨pr, D :: ex⟩⟩ ad.cls ρ2 S2 H ∧ Sig ⟨F, ⟨pr, D :: ex⟩⟩ ρ2 H env σ ∧ WkOk ⟨F, ⟨pr, D :: ex⟩⟩ ρ2 H w J ∧
      H D = some (.lst acc) ∧ acc.length ≤ i ∧ Reps ⟨F, ⟨pr, D :: ex⟩⟩ ρ2 H accD acc ∧
      Out ⟨F, ⟨pr, ex⟩⟩ ad.cls ((compL w (cTurn cfg elt tg ifs (wipeE env own)) (w.items.drop i) S2).bind fun r S3 => cFin w mu (accD ++ r) S3) ρ1 H1 (fun d S ρ' H' => ∀ v, Rep ⟨F, ⟨pr, ex⟩⟩ ρ' H' d v → Q v H') (ExX ad ⟨F, ⟨pr, ex⟩⟩ fun c d J => W c d σ J),
    ⟨_, rfl, Nat.zero_le _, ρ1, S1, [], [], Ext.refl.wr hD, s1.hid hD [], sg1.hid s1 hD [], wk.hid s1 hD [], upd_same, Nat.le_refl _, Reps.nil, o1⟩, ?_⟩
  rintro i m H2 ⟨rfl, hi, ρ2, S2, accD, acc, x2, s2, g2, wk2, hacc, hal, racc, o2⟩
  by_cases hlt : i < w.items.length
  · obtain ⟨d, hd⟩ : ∃ d, w.items[i]? = some d := ⟨_, List.getElem?_eq_getElem hlt⟩
    have hdrop : w.items.drop i = d :: w.items.drop (i + 1) := by
      rw [List.drop_eq_getElem_cons hlt]
      rw [List.getElem?_eq_getElem hlt] at hd
      rw [Option.some.inj hd]
    rw [hdrop] at o2
    unfold compL at o2
    split at o2
    rotate_left
    · exact False.elim o2
    rename_i hst
    rw [bind_assoc] at o2
    obtain ⟨u1, u2⟩ := wk2.use s2 hst i
    obtain ⟨go, yl⟩ := u1 d hd
    refine .inr ⟨go, fun H' => ∃ ρ2 S2 accD acc, Ext ρ1 H1 ρ2 H' ∧ SR ⟨F, ⟨pr, D :: ex⟩⟩ ad.cls ρ2 S2 H' ∧ Sig ⟨F, ⟨pr, D :: ex⟩⟩ ρ2 H' env σ ∧ WkOk ⟨F, ⟨pr, D :: ex⟩⟩ ρ2 H' w J ∧
      H' D = some (.lst acc) ∧ acc.length ≤ i + 1 ∧ Reps ⟨F, ⟨pr, D :: ex⟩⟩ ρ2 H' accD acc ∧
      Out ⟨F, ⟨pr, ex⟩⟩ ad.cls ((compL w (cTurn cfg elt tg ifs (wipeE env own)) (w.items.drop (i + 1)) S2).bind fun r S3 => cFin w mu (accD ++ r) S3) ρ1 H1 (fun d S ρ' H' => ∀ v, Rep ⟨F, ⟨pr, ex⟩⟩ ρ' H' d v → Q v H') (ExX ad ⟨F, ⟨pr, ex⟩⟩ fun c d J => W c d σ J),
      fun H' q => ⟨w.items.length - (i + 1), by omega, rfl, hlt, q⟩, fun x H' y => ?_⟩
    obtain ⟨rfl, rx⟩ := yl x H' y
    cases hb : bindTg tg (wipeE env own) d with
    | none =>
      have hT : cTurn cfg elt tg ifs (wipeE env own) d S2 = .bad := by unfold cTurn; rw [hb]
      rw [hT] at o2; exact False.elim o2
    | some e1 =>
      have hT : cTurn cfg elt tg ifs (wipeE env own) d S2 = (evEb cfg ifs e1 S2).bind fun k S3 => if k = true then (evE cfg elt e1 S3).bind fun x S4 => .ok (some x) S4 else .ok none S3 := by unfold cTurn; rw [hb]
      rw [hT] at o2
      rw [bind_assoc] at o2
      refine gT_set rx hb (g2.wipe own) fun σ2 g3 hl hj => ⟨?_, ?_⟩
      · rw [← wipe_wipe σ own]
        exact wipe_eq hl fun j hn => hj j fun q => hn (hown j q)
      refine ⟨D :: ex, ρ2, S2, e1, s2, g3, (Out.hidden o2 x2 (fun c m S ρ' H' q t v h1 h2 => q t v h1 (Rep.unhid (K := ⟨F, ⟨pr, ex⟩⟩) h2))).mono (fun b S3 ρ3 H3 x3 s3 ⟨o3, x13⟩ => ?_) fun _ _ _ _ _ _ _ h => h⟩
      have hD3 : H3 D = some (.lst acc) := (x3.out hacc (s2.exo D List.mem_cons_self).1).1
      cases b with
      | false =>
        have o3 : Out ⟨F, ⟨pr, ex⟩⟩ ad.cls (((compL w (cTurn cfg elt tg ifs (wipeE env own)) (w.items.drop (i + 1)) S3).bind fun r S2 => R.ok r S2).bind fun r S3 => cFin w mu (accD ++ r) S3) ρ1 H1 _ _ := o3
        rw [bind_assoc] at o3
        exact ⟨ρ3, S3, accD, acc, x13, s3, g2.ext x3 s2, wk2.ext x3 s2, hD3, by omega, racc.ext x3 s2, o3⟩
      | true =>
        have o3 : Out ⟨F, ⟨pr, ex⟩⟩ ad.cls (((evE cfg elt e1 S3).bind fun x S4 => R.ok (some x) S4).bind fun o S1 => ((compL w (cTurn cfg elt tg ifs (wipeE env own)) (w.items.drop (i + 1)) S1).bind fun r S2 => R.ok (match o with | some x => x :: r | none => r) S2).bind fun r S3 => cFin w mu (accD ++ r) S3) ρ1 H1 _ _ := o3
        rw [bind_assoc] at o3
        refine ⟨D :: ex, ρ3, S3, e1, s3, g3.ext x3 s2, (Out.hidden o3 x13 (fun c m S ρ' H' q t v h1 h2 => q t v h1 (Rep.unhid (K := ⟨F, ⟨pr, ex⟩⟩) h2))).mono (fun y S4 ρ4 H4 x4 s4 ⟨o4, x14⟩ v rv => ?_) fun _ _ _ _ _ _ _ h => h⟩
        have hD4 : H4 D = some (.lst acc) := (x4.out hD3 (s3.exo D List.mem_cons_self).1).1
        refine ⟨acc, hD4, by omega, ρ4, S4, accD ++ [y], acc ++ [v], x14.wr hD, SR.wr (K := ⟨F, ⟨pr, ex⟩⟩) s4 hD4, Sig.wr (K := ⟨F, ⟨pr, ex⟩⟩) ((g2.ext x3 s2).ext x4 s3) hD4, WkOk.wr (K := ⟨F, ⟨pr, ex⟩⟩) ((wk2.ext x3 s2).ext x4 s3) hD4, upd_same, by rw [List.length_append]; simpa using hal, ?_, ?_⟩
        · exact reps_snoc (Reps.wr (K := ⟨F, ⟨pr, ex⟩⟩) hD4 ((racc.ext x3 s2).ext x4 s3)) (Rep.wr (K := ⟨F, ⟨pr, ex⟩⟩) hD4 rv)
        · have e : (fun (r : List MP.D) (S3 : Sto) => cFin w mu ((accD ++ [y]) ++ r) S3) = fun r S3 => cFin w mu (accD ++ (y :: r)) S3 := by
            funext r S3; rw [List.append_assoc]; rfl
          rw [e]
          have o4 : Out ⟨F, ⟨pr, ex⟩⟩ ad.cls (((compL w (cTurn cfg elt tg ifs (wipeE env own)) (w.items.drop (i + 1)) S4).bind fun r S2 => R.ok (y :: r) S2).bind fun r S3 => cFin w mu (accD ++ r) S3) ρ1 H1 _ _ := o4
          rw [bind_assoc] at o4
          exact o4
  · have e : i = w.items.length := by omega
    have hdrop : w.items.drop i = [] := by rw [e]; simp
    rw [hdrop] at o2
    unfold compL at o2
    have o2 : Out ⟨F, ⟨pr, ex⟩⟩ ad.cls (cFin w mu (accD ++ []) S2) ρ1 H1 _ _ := o2
    rw [List.append_nil] at o2
    unfold cFin at o2
    split at o2
    rotate_left
    · exact False.elim o2
    rename_i hst
    refine .inl ⟨(wk2.use s2 hst i).2 (by omega), ?_⟩
    cases mu with
    | true =>
      refine o2 (ρ2 ++ [D]) H2 (x2.snoc hD) (SR.adopt (K := ⟨F, ⟨pr, ex⟩⟩) s2 nex hacc racc) _ ?_
      unfold Rep
      exact ⟨D, rfl, by rw [← s2.len]; simp⟩
    | false =>
      refine o2 ρ2 H2 x2 (SR.unhid (K := ⟨F, ⟨pr, ex⟩⟩) s2) _ ?_
      unfold Rep
      exact ⟨D, acc, rfl, hacc, ⟨(s2.exo D List.mem_cons_self).1, nex⟩, Reps.unhid (K := ⟨F, ⟨pr, ex⟩⟩) racc⟩
end
end MP

set_option linter.all false
set_option maxRecDepth 100000
set_option maxHeartbeats 4000000
/-! MiniPy, 18: all expressions. -/
namespace MP
open PySem PySem.Spec PyProof.Rows L2

section
variable {T : Tab} {N : List Str} {ad : Ad} {cfg : Cfg} {kd : KD} {k : Nat}
theorem Gd.ex_ {X : Cx} {W : WX} (g : Gd T N ad cfg kd k X W) (ex : List Addr) : Gd T N ad cfg ⟨kd.pr, ex⟩ k X W :=
  ⟨g.hN, g.nd, g.calm, g.room, g.grd, g.tk, g.stk, g.frm, g.fx⟩
theorem Gd.blk {X : Cx} {W : WX} (g : Gd T N ad cfg kd k X W) {s : Shared} {H : Hp} {scope : Scope} {C : Addr} {cl : List (Str × Addr)} {fp : List Addr} {xe : Value → Shared → Prop} {W' : WX}
    (tk : MX.Takes (MX.blkX X s H scope (compEnvC scope cl C X.env) fp xe) W') (ex : List Addr) : Gd T N ad cfg ⟨kd.pr, ex⟩ k (MX.blkX X s H scope (compEnvC scope cl C X.env) fp xe) W' :=
  ⟨g.hN, g.nd, g.calm, g.room, g.grd, tk, g.stk, g.frm, g.fx⟩
theorem ch_comp {sc : Scope} {mu : Bool} {elt : E} {tg : Tg} {it : It} {ifs : Eo} {own : List Nat} {e : Expr} (h : chE T N sc (.comp mu elt tg it ifs own) e = true) :
    ∃ x t i is scope pos, e = .ListComp x [⟨t, i, is, 0⟩] scope pos ∧ chIt T N sc it i = true ∧ blkC N sc scope (own.map fun j => (N.getD j "", j)) = true ∧ tgB false N (relS scope sc) tg t = true ∧
      chB T N (relS scope sc) ifs is = true ∧ chE T N (relS scope sc) elt x = true ∧ ∀ j ∈ tg.ix, j ∈ own := by
  cases e <;> try (exact Bool.noConfusion (show false = true from h))
  rename_i x gs scope pos
  rcases gs with _ | ⟨⟨t, i, is, a⟩, gs⟩
  · exact Bool.noConfusion (show false = true from h)
  rcases a with (_ | a) | a <;> rcases gs with _ | ⟨_, _⟩ <;> try (exact Bool.noConfusion (show false = true from h))

  replace h : chE T N sc (.comp mu elt tg it ifs own) (.ListComp x [⟨t, i, is, 0⟩] scope pos) = true := h
  unfold chE at h; simp only [Bool.and_eq_true] at h
  obtain ⟨⟨⟨⟨⟨⟨h1, h2⟩, h3⟩, h4⟩, h5⟩, h6⟩, h7⟩ := h
  refine ⟨x, t, i, is, scope, pos, rfl, h1, h2, h3, ?_, h5, fun j hj => ?_⟩
  · cases ifs <;> rcases is with _ | ⟨_, _ | ⟨_, _⟩⟩ <;> first | exact h4 | (exact Bool.noConfusion (show false = true from h4))
  cases tg with
  | nm i => simp only [Tg.ix, List.mem_singleton] at hj; subst hj; simpa using h7
  | tup is => simp only [List.all_eq_true, List.contains_iff_mem] at h7; exact h7 j hj
theorem folded_of {i : Expr} {env : PySem.Env} (h : noSet i = true) (x : Value) : foldedSetIterable i env x = pure x := by
  cases i <;> first | rfl | cases h
/-- a comprehension, run -/
theorem lc_run {mu : Bool} {elt : E} {tg : Tg} {it : It} {ifs : Eo} {own : List Nat} (ha : ∀ ex, HE T N ad cfg ⟨kd.pr, ex⟩ k elt) (hb : ∀ ex, HB T N ad cfg ⟨kd.pr, ex⟩ k ifs) (hi : HI T N ad cfg kd k it)
    {X : Cx} {W : WX} {sc : Scope} {x : Expr} {t i : Expr} {is : List Expr} {scope : Scope} {pos pos' : Pos} (g : Gd T N ad cfg kd k X W) (hs : X.env.scope = sc)
    (h1 : chIt T N sc it i = true) (h2 : blkC N sc scope (own.map fun j => (N.getD j "", j)) = true) (h3 : tgB false N (relS scope sc) tg t = true)
    (h4 : chB T N (relS scope sc) ifs is = true) (h5 : chE T N (relS scope sc) elt x = true) (h6 : ∀ j ∈ tg.ix, j ∈ own)
    {pins : List (Addr × Obj)} {s : Shared} {σ : L2.St} {H : Hp} {Q : VK} {use : Option (Value → Sem Unit)} {Qf : Value → Shared → Prop} (I : Inv X pins σ H s)
    (h : tE ad ⟨X.K, kd⟩ cfg W (.comp mu elt tg it ifs own) σ H Q)
    (hRR : ∀ D C z m J, Inv X pins σ J z → Q (.ref D) J → z.heap.Ns C m → FpOk X pins J C → compPost (model X.prog X.w) X.A X.xe use Qf (.ref D) C (.ok .next) z) :
    wpAny (model X.prog X.w) X.A (comprehension (.ListComp x [⟨t, i, is, 0⟩] scope pos) scope X.env pos' (newList []) false (eval i X.env) use) Qf X.xe s := by
  subst hs
  obtain ⟨pi, ns⟩ := hi (tg := t) (W := W) g rfl h1
  have hmap : (own.map fun j => (N.getD j "", j)).map (·.2) = own := by rw [List.map_map]; exact List.map_id'' (fun _ => rfl) own
  have bok : BlkOk X.N X.env.scope scope (own.map fun j => (N.getD j "", j)) := by rw [g.hN]; exact blkOk_by h2
  have hq := comp_t h6 h
  rw [← hmap] at hq
  refine MX.lc_coreX (own := own.map fun j => (N.getD j "", j)) (W := W) g.stk g.frm g.tk g.calm (by rw [g.hN]; exact g.nd) I pi bok (fun s H C cl fp xe => ?_) (fun s H C cl fp xe tk => ?_) (fun s H C cl fp xe tk => ?_) (folded_of ns) hq hRR
  · exact pg_tg (fr := false) (sc := relS scope X.env.scope) g.hN g.nd rfl g.calm nofun h3
  · refine ⟨fun pins' s' σ' H' Q' I' ⟨ex, q⟩ => ?_⟩
    exact (hb ex (W := fun c d _ J => W c d σ J) (g.blk tk ex) rfl h4).run pins' s' σ' H' Q' I' q
  · refine ⟨fun pins' s' σ' H' Q' I' ⟨ex, q⟩ => ?_⟩
    exact (ha ex (W := fun c d _ J => W c d σ J) (g.blk tk ex) rfl h5).run pins' s' σ' H' Q' I' q
theorem he_comp {mu : Bool} {elt : E} {tg : Tg} {it : It} {ifs : Eo} {own : List Nat} (ha : ∀ ex, HE T N ad cfg ⟨kd.pr, ex⟩ k elt) (hb : ∀ ex, HB T N ad cfg ⟨kd.pr, ex⟩ k ifs) (hi : HI T N ad cfg kd k it) :
    HE T N ad cfg kd k (.comp mu elt tg it ifs own) := by
  intro X W sc e g hs h
  obtain ⟨x, t, i, is, scope, pos, rfl, h1, h2, h3, h4, h5, h6⟩ := ch_comp h
  refine ⟨fun pins s σ H Q I q => ?_⟩
  rw [eval_ListComp]
  refine lc_run ha hb hi g hs h1 h2 h3 h4 h5 h6 I q fun D C z m J I' q' hn f => ⟨m, hn, fun h'' sb => ?_⟩
  obtain ⟨f0, f1, f2, f3, f4, f5⟩ := f
  exact ⟨.ref D, J, I'.turned (t' := z.toks) (fun b o hb e => (sb.2 b hb).trans e) f0 f1 f3 f4 f5, rfl, q'⟩

/-! ### all of them -/
/-- a node whose test is its value's -/
def isTestN : E → Bool
  | .no _ => true | .and _ _ => true | .or _ _ => true | .cmp _ _ _ => true | .chain _ _ _ _ _ => true | .isN _ _ => true
  | _ => false
theorem valTest_of {m : E} {sc : Scope} {e : Expr} (hm : isTestN m = false) (hi : ∀ a b c, m ≠ .ife a b c) (h : chE T N sc m e = true) : valTest e = true := by
  by_cases hl : ∃ a b c, m = .lm a b c
  · obtain ⟨a, b, c, rfl⟩ := hl
    cases a <;> cases c <;> cases e <;> first | rfl | (exact Bool.noConfusion (show false = true from h))
  cases m <;> first
    | (exact absurd ⟨_, _, _, rfl⟩ hl)
    | (exact Bool.noConfusion (show true = false from hm))
    | (exact absurd rfl (hi _ _ _))
    | (cases e <;> first | rfl | (exact Bool.noConfusion (show false = true from h)) | skip)
  all_goals (rename_i op _ _; cases op <;> first | rfl | (exact Bool.noConfusion (show false = true from h)))
end
end MP

set_option linter.all false
set_option maxRecDepth 100000
set_option maxHeartbeats 4000000
/-! MiniPy, 19: all expressions, at once. -/
namespace MP
open PySem PySem.Spec PyProof.Rows L2

section
variable {T : Tab} {N : List Str} {ad : Ad} {cfg : Cfg} {pr : Addr → List (Str × Str) → Prop} {k : Nat}
theorem he_no_mk {m : E} (h : ∀ {sc : Scope} {e : Expr}, chE T N sc m e = false) {kd : KD} : HE T N ad cfg kd k m := fun {X W sc e} _ _ q => by rw [h] at q; cases q
theorem ht_of {m : E} {kd : KD} (hm : isTestN m = false) (h : HE T N ad cfg kd k m) : HT T N ad cfg kd k m := by
  by_cases q : ∃ a b c, m = .ife a b c
  · obtain ⟨a, b, c, rfl⟩ := q
    exact fun _ _ _ hto => Bool.noConfusion (show false = true from hto)
  · exact ht_val (fun hc => valTest_of hm (fun a b c z => q ⟨a, b, c, z⟩) hc) h
abbrev B (T : Tab) (N : List Str) (ad : Ad) (cfg : Cfg) (kd : KD) (k : Nat) (m : E) : Prop := HE T N ad cfg kd k m ∧ HT T N ad cfg kd k m
theorem both {m : E} {kd : KD} (hm : isTestN m = false) (h : HE T N ad cfg kd k m) : B T N ad cfg kd k m := ⟨h, ht_of hm h⟩
variable (T N ad cfg pr k)
mutual
theorem e_all : ∀ (m : E) (ex : List Addr), B T N ad cfg ⟨pr, ex⟩ k m
  | .var i, ex => both rfl fun g hs h => pe_E_var g hs h
  | .non, ex => both rfl fun g hs h => pe_E_non h
  | .bl b, ex => both rfl fun g hs h => pe_E_bl h
  | .int i, ex => both rfl fun g hs h => pe_E_int h
  | .str x, ex => both rfl fun g hs h => pe_E_str h
  | .glb i, ex => both rfl fun g hs h => pe_E_glb g hs h
  | .bin o a b, ex => both rfl (he_bin (e_all a ex).1 (e_all b ex).1)
  | .neg a, ex => both rfl (he_neg (e_all a ex).1)
  | .no a, ex => ⟨he_no (e_all a ex).1, ht_no (e_all a ex).2⟩
  | .cmp o a b, ex => ⟨he_cmp (e_all a ex).1 (e_all b ex).1, ht_cmp (e_all a ex).1 (e_all b ex).1⟩
  | .chain o p a b c, ex => ⟨he_chain (e_all a ex).1 (e_all b ex).1 (e_all c ex).1, ht_chain (e_all a ex).1 (e_all b ex).1 (e_all c ex).1⟩
  | .isN n a, ex => ⟨he_isN (e_all a ex).1, ht_isN (e_all a ex).1⟩
  | .and a b, ex => ⟨he_and (e_all a ex).1 (e_all b ex).1, ht_and (e_all a ex).2 (e_all b ex).2⟩
  | .or a b, ex => ⟨he_or (e_all a ex).1 (e_all b ex).1, ht_or (e_all a ex).2 (e_all b ex).2⟩
  | .ife c a b, ex => both rfl (he_ife (e_all c ex).2 (e_all a ex).1 (e_all b ex).1)
  | .call f as, ex => both rfl (he_call (es_all as ex))
  | .bi f as, ex => both rfl (he_bi (es_all as ex))
  | .isi a t, ex => both rfl (he_isi (e_all a ex).1)
  | .me m o as, ex => both rfl (he_me (e_all o ex).1 (es_all as ex))
  | .repl a i y z, ex => both rfl (he_repl (e_all a ex).1)
  | .lm m o as, ex => both rfl (he_lm (e_all o ex).1 (es_all as ex))
  | .idx a b, ex => both rfl (he_idx (e_all a ex).1 (e_all b ex).1)
  | .slc o lo hi, ex => both rfl (he_slc (e_all o ex).1 (eo_all lo ex).1 (eo_all hi ex).1)
  | .rev a, ex => both rfl (he_rev (e_all a ex).1)
  | .tup as, ex => both rfl (he_tup (es_all as ex))
  | .lst mu as, ex => both rfl (he_lst (es_all as ex))
  | .dct kvs, ex => both rfl he_dct
  | .comp mu elt tg it ifs own, ex => both rfl (he_comp (fun ex => (e_all elt ex).1) (fun ex => (eo_all ifs ex).2) (it_all it ex))
  | .mk c as, ex => both rfl (he_no_mk fun {sc e} => by cases e <;> rfl)
  | .om f o as, ex => both rfl (he_no_mk fun {sc e} => by cases e <;> rfl)
  | .fld o f, ex => both rfl (he_no_mk fun {sc e} => by cases e <;> rfl)
theorem es_all : ∀ (m : Es) (ex : List Addr), HA T N ad cfg ⟨pr, ex⟩ k m
  | .nil, ex => ha_nil
  | .cons a as, ex => ha_cons (e_all a ex).1 (es_all as ex)
theorem eo_all : ∀ (m : Eo) (ex : List Addr), HO T N ad cfg ⟨pr, ex⟩ k m ∧ HB T N ad cfg ⟨pr, ex⟩ k m
  | .none, ex => ⟨ho_none, hb_none⟩
  | .some a, ex => ⟨ho_some (e_all a ex).1, hb_some (e_all a ex).2⟩
theorem it_all : ∀ (m : It) (ex : List Addr), HI T N ad cfg ⟨pr, ex⟩ k m
  | .of a, ex => hi_of (e_all a ex).1
  | .keys g, ex => hi_keys
  | .rng1 a, ex => hi_rng1 (e_all a ex).1
  | .rng2 a b, ex => hi_rng2 (e_all a ex).1 (e_all b ex).1
  | .enum e, ex => fun _ _ q => absurd q (by rw [show chIt T N _ _ _ = false from rfl]; exact Bool.false_ne_true)
  | .zip a b, ex => fun _ _ q => absurd q (by rw [show chIt T N _ _ _ = false from rfl]; exact Bool.false_ne_true)
end
end
end MP

set_option linter.all false
set_option maxRecDepth 100000
set_option maxHeartbeats 4000000
/-! MiniPy, 20: statements. -/
namespace MP
open PySem PySem.Spec PyProof.Rows L2

def locN (N : List Str) (sc : Scope) (i : Nat) (x : Str) : Bool := decide (N[i]? = some x) && isB sc x .local
def swapOk (vs : List Expr) : Bool := vs.all noStar && !(vs.all (foldedForSure 8)) && !(vs.all (constantsAlone 8))
def simpleE : E → Bool
  | .non => true | .bl _ => true | .int _ => true | .str _ => true
  | _ => false
def noTupV : Expr → Bool
  | .Tuple _ _ _ => false
  | _ => true
section
variable (T : Tab) (N : List Str)
mutual
def chS (sc : Scope) : St → Stmt → Bool
  | .asg tg e, .Assign [t] v _ => tgB true N sc tg t && chE T N sc e v && noComp v && (match tg with | .tup _ => noTupV v | _ => true)
  | .asgc i e, .Assign [.Name x py] (.ListComp a b scope p) _ => locN N sc i x && chE T N sc e (.ListComp a b scope p) && (py.line == p.line) && !(scope.names.any fun (n, k) => n == x && (k == .local || k == .cell)) && decide (sc.kind = .function)
  | .par2 i j a b, .Assign [.Tuple [.Name x px, .Name y py] _ _] (.Tuple [u, v] _ _) _ => locN N sc i x && locN N sc j y && !(i == j) && !(x == y) && chE T N sc a u && chE T N sc b v && swapOk [u, v] && (py.line == px.line) && decide (sc.kind = .function)
  | .par3 i j l a b c, .Assign [.Tuple [.Name x px, .Name y py, .Name z pz] _ _] (.Tuple [u, v, w] _ _) _ => locN N sc i x && locN N sc j y && locN N sc l z && !(i == j) && !(i == l) && !(j == l) && !(x == y) && !(x == z) && !(y == z) &&
      chE T N sc a u && chE T N sc b v && chE T N sc c w && swapOk [u, v, w] && (py.line == px.line) && (pz.line == px.line) && decide (sc.kind = .function)
  | .sset o i e, .Assign [.Subscript p q _] v _ => chE T N sc o p && chE T N sc i q && chE T N sc e v && noComp v && noSlice q
  | .aug i o e, .AugAssign (.Name x _) op v _ => decide (N[i]? = some x) && (isB sc x .local || isB sc x .cell) && chE T N sc e v && boB o op && (match o with | .add => true | .sub => true | .mul => true | _ => false)
  | .xpr e, .Expr v _ => chE T N sc e v && noComp v
  | .ifs c a b, .If x p q _ => chE T N sc c x && tOk c x && chSs sc a p && chSs sc b q
  | .whl c b, .While x p [] _ => chE T N sc c x && tOk c x && chSs sc b p
  | .for_ tg it b, .For t i p [] _ => tgB true N sc tg t && chIt T N sc it i && chSs sc b p
  | .ret e, .Return (some v) _ => chE T N sc e v
  | .retn, .Return none _ => true
  | .raise k e, .Raise (some (.Call (.Name x _) [v] [] _)) none _ => decide (T.exs[k]? = some x) && isB sc x .globalImplicit && nmOk x && chE T N sc e v && noStar v
  | .tryx b k none (.cons (.ret e) .nil), .Try p [.ExceptHandler (some (.Name x _)) none [.Return (some v) _] _] [] [] _ => chSs sc b p && decide (T.exs[k]? = some x) && isB sc x .globalImplicit && nmOk x && simpleE e && chE T N sc e v
  | .pas, .Pass _ => true
  | .brk, .Break _ => true
  | .cnt, .Continue _ => true
  | _, _ => false
def chSs (sc : Scope) : Sts → List Stmt → Bool
  | .nil, [] => true
  | .cons a as, s :: ss => chS sc a s && chSs sc as ss
  | _, _ => false
end
end

/-! ### outcomes -/
def OutS (ad : Ad) (K : KF) (r : RS) (ρ : List Addr) (H : Hp) (D : Ends) (W : WX) : Prop :=
  match r with
  | .ok f env S => ∀ ρ' H', Ext ρ H ρ' H' → SR K ad.cls ρ' S H' → (match f with
    | .nx => ∀ σ, Sig K ρ' H' env σ → D.nx σ H'
    | .bk => ∀ σ, Sig K ρ' H' env σ → D.bk σ H'
    | .ct => ∀ σ, Sig K ρ' H' env σ → D.ct σ H'
    | .rt d => ∀ v, Rep K ρ' H' d v → D.rt v H')
  | .exc c m env S => ∀ ρ' H' σ, Ext ρ H ρ' H' → SR K ad.cls ρ' S H' → Sig K ρ' H' env σ → ExX ad K (fun c d J => W c d σ J) c m S ρ' H'
  | .bad => False
section
variable {ad : Ad} {K : KF} {ρ ρ' : List Addr} {H H' : Hp} {D D' : Ends} {W W' : WX} {S : Sto} {env : Env} {σ : L2.St} {cfg : Cfg}
theorem OutS.at_ {r : RS} (h : OutS ad K r ρ H D W) (x : Ext ρ H ρ' H') : OutS ad K r ρ' H' D W := by
  cases r with
  | ok f env S => exact fun ρ2 H2 y s => h ρ2 H2 (x.trans y) s
  | exc c m env S => exact fun ρ2 H2 σ y s g => h ρ2 H2 σ (x.trans y) s g
  | bad => exact h
theorem OutS.toS {α : Type} {r : R α} {f : α → Sto → RS} (sr : SR K ad.cls ρ S H) (sg : Sig K ρ H env σ) (h : OutS ad K (r.toS env f) ρ H D W) :
    Out K ad.cls r ρ H (fun a S ρ' H' => OutS ad K (f a S) ρ' H' D W) (ExX ad K fun c d J => W c d σ J) := by
  cases r with
  | ok a S => exact fun ρ' H' x s => OutS.at_ h x
  | exc c m S => exact fun ρ' H' x s => h ρ' H' σ x s (sg.ext x sr)
  | bad => exact h
theorem tE_S {m : E} {f : MP.D → Sto → RS} {Q1 : VK} (sr : SR K ad.cls ρ S H) (sg : Sig K ρ H env σ) (h : OutS ad K ((evE cfg m env S).toS env f) ρ H D W)
    (next : ∀ d S1 ρ1 H1 v, Ext ρ H ρ1 H1 → SR K ad.cls ρ1 S1 H1 → Sig K ρ1 H1 env σ → Rep K ρ1 H1 d v → OutS ad K (f d S1) ρ1 H1 D W → Q1 v H1) : tE ad K cfg W m σ H Q1 :=
  ⟨ρ, S, env, sr, sg, (OutS.toS sr sg h).mono (fun d S1 ρ1 H1 x s o v r => next d S1 ρ1 H1 v x s (sg.ext x sr) r o) fun c d S ρ' H' _ _ e => e⟩
/-- the reading of a small statement -/
def tS (ad : Ad) (K : KF) (cfg : Cfg) (W : WX) (m : MP.St) : TS := fun D σ H => ∃ ρ S env, SR K ad.cls ρ S H ∧ Sig K ρ H env σ ∧ OutS ad K (evS cfg m env S) ρ H D W
def tSs (ad : Ad) (K : KF) (cfg : Cfg) (W : WX) (m : Sts) : TS := fun D σ H => ∃ ρ S env, SR K ad.cls ρ S H ∧ Sig K ρ H env σ ∧ OutS ad K (evSs cfg m env S) ρ H D W
end
/-- a def's good context -/
structure GdS (T : Tab) (N : List Str) (ad : Ad) (cfg : Cfg) (kd : KD) (k : Nat) (X : Cx) (W : WX) : Prop extends Gd T N ad cfg kd k X W where
  own : PassesOwn (model X.prog X.w) X.A X.env X.xe
  hs_ : X.stack = X.env :: X.outer
  hf_ : X.env.frame = some X.env.locals
  fn_ : ∀ x, X.fn x = true
def HS (T : Tab) (N : List Str) (ad : Ad) (cfg : Cfg) (kd : KD) (k : Nat) (m : MP.St) : Prop :=
  ∀ {X : Cx} {W : WX} {sc : Scope} {s : Stmt}, GdS T N ad cfg kd k X W → X.env.scope = sc → chS T N sc m s = true → PS X s (tS ad ⟨X.K, kd⟩ cfg W m)
def HSs (T : Tab) (N : List Str) (ad : Ad) (cfg : Cfg) (kd : KD) (k : Nat) (m : Sts) : Prop :=
  ∀ {X : Cx} {W : WX} {sc : Scope} {s : List Stmt}, GdS T N ad cfg kd k X W → X.env.scope = sc → chSs T N sc m s = true → PSs X s (tSs ad ⟨X.K, kd⟩ cfg W m)
section
variable {T : Tab} {N : List Str} {ad : Ad} {cfg : Cfg} {kd : KD} {k : Nat}
theorem hs_of {m : MP.St} {X : Cx} {W : WX} {s : Stmt} {t : TS} (h : PS X s t) (i : ∀ {D : Ends} {σ : L2.St} {H : Hp} {ρ : List Addr} {S : Sto} {env : Env}, SR ⟨X.K, kd⟩ ad.cls ρ S H → Sig ⟨X.K, kd⟩ ρ H env σ → OutS ad ⟨X.K, kd⟩ (evS cfg m env S) ρ H D W → t D σ H) :
    PS X s (tS ad ⟨X.K, kd⟩ cfg W m) := h.imp fun D σ H ⟨ρ, S, env, sr, sg, o⟩ => i sr sg o
theorem hs_pas : HS T N ad cfg kd k .pas := by
  intro X W sc s g hs h
  cases s <;> try (exact Bool.noConfusion (show false = true from h))
  refine hs_of ps_pass fun sr sg o => ?_
  unfold evS at o
  exact o _ _ Ext.refl sr _ sg
theorem hs_brk : HS T N ad cfg kd k .brk := by
  intro X W sc s g hs h
  cases s <;> try (exact Bool.noConfusion (show false = true from h))
  refine hs_of ps_break fun sr sg o => ?_
  unfold evS at o
  exact o _ _ Ext.refl sr _ sg
theorem hs_cnt : HS T N ad cfg kd k .cnt := by
  intro X W sc s g hs h
  cases s <;> try (exact Bool.noConfusion (show false = true from h))
  refine hs_of ps_continue fun sr sg o => ?_
  unfold evS at o
  exact o _ _ Ext.refl sr _ sg
theorem hs_ret {e : E} (he : HE T N ad cfg kd k e) : HS T N ad cfg kd k (.ret e) := by
  intro X W sc s g hs h
  cases s <;> try (exact Bool.noConfusion (show false = true from h))
  rename_i v pos
  cases v <;> try (exact Bool.noConfusion (show false = true from h))
  rename_i v
  simp only [chS] at h
  refine hs_of (ps_ret (he (W := W) g.toGd hs h)) fun sr sg o => ?_
  unfold evS at o
  exact tE_S sr sg o fun d S1 ρ1 H1 v x1 s1 g1 r1 o1 => o1 _ _ Ext.refl s1 _ r1
theorem hs_retn : HS T N ad cfg kd k .retn := by
  intro X W sc s g hs h
  cases s <;> try (exact Bool.noConfusion (show false = true from h))
  rename_i v pos
  cases v <;> try (exact Bool.noConfusion (show false = true from h))
  refine hs_of ps_retN fun sr sg o => ?_
  unfold evS at o
  exact o _ _ Ext.refl sr _ rep_non
theorem hs_xpr {e : E} (he : HE T N ad cfg kd k e) : HS T N ad cfg kd k (.xpr e) := by
  intro X W sc s g hs h
  cases s <;> try (exact Bool.noConfusion (show false = true from h))
  simp only [chS, Bool.and_eq_true] at h
  refine hs_of (ps_expr (he (W := W) g.toGd hs h.1) (swaps_of h.2)) fun sr sg o => ?_
  unfold evS at o
  exact tE_S sr sg o fun d S1 ρ1 H1 v x1 s1 g1 r1 o1 => o1 _ _ Ext.refl s1 _ g1
theorem hs_ifs {c : E} {a b : Sts} (hc : HT T N ad cfg kd k c) (ha : HSs T N ad cfg kd k a) (hb : HSs T N ad cfg kd k b) : HS T N ad cfg kd k (.ifs c a b) := by
  intro X W sc s g hs h
  cases s <;> try (exact Bool.noConfusion (show false = true from h))
  simp only [chS, Bool.and_eq_true] at h
  obtain ⟨⟨⟨h1, h2⟩, h3⟩, h4⟩ := h
  refine hs_of (ps_if (hc (W := W) g.toGd hs h1 h2).1 (ha (W := W) g hs h3) (hb (W := W) g hs h4)) fun sr sg o => ?_
  unfold evS at o
  refine tE_S sr sg o fun d S1 ρ1 H1 v x1 s1 g1 r1 o1 => ?_
  cases d with
  | bl b =>
    refine ⟨b, rep_bl_of' r1, ?_⟩
    cases b with
    | true => exact ⟨ρ1, S1, _, s1, g1, o1⟩
    | false => exact ⟨ρ1, S1, _, s1, g1, o1⟩
  | _ => exact False.elim o1
theorem swst_none {t v : Expr} {env : PySem.Env} (h : (match t with | .Tuple _ _ _ => noTupV v | .List _ _ => noTupV v | _ => true) = true) : swappedStores [t] v env = pure none := by
  unfold swappedStores
  cases t <;> first | rfl | (cases v <;> first | rfl | cases h)
theorem tg_form {fr : Bool} {sc : Scope} {tg : Tg} {t : Expr} (h : tgB fr N sc tg t = true) : (∃ x p, t = .Name x p) ∨ (∃ es j p is, t = .Tuple es j p ∧ tg = .tup is) := by
  cases tg with
  | nm i =>
    have h : nmB fr N sc i t = true := h
    cases t <;> first | (exact .inl ⟨_, _, rfl⟩) | (exact Bool.noConfusion (show false = true from h))
  | tup is => cases t <;> first | (exact .inr ⟨_, _, _, _, rfl, rfl⟩) | (exact Bool.noConfusion (show false = true from h))
theorem hs_asg {tg : Tg} {e : E} (he : HE T N ad cfg kd k e) : HS T N ad cfg kd k (.asg tg e) := by
  intro X W sc s g hs h
  cases s <;> try (exact Bool.noConfusion (show false = true from h))
  rename_i ts v pos
  rcases ts with _ | ⟨t, _ | ⟨_, _⟩⟩ <;> try (exact Bool.noConfusion (show false = true from h))
  simp only [chS, Bool.and_eq_true] at h
  obtain ⟨⟨⟨h1, h2⟩, h3⟩, h4⟩ := h
  have hw : swappedStores [t] v X.env = pure none := by
    refine swst_none ?_
    rcases tg_form h1 with ⟨x, p, rfl⟩ | ⟨es, j, p, is, rfl, rfl⟩
    · rfl
    · exact h4
  have ha : (assignEach [t] X.env).map (·.2) = [assign t X.env] := by
    rcases tg_form h1 with ⟨x, p, rfl⟩ | ⟨es, j, p, is, rfl, rfl⟩ <;> rfl
  refine hs_of (ps_asg (he (W := W) g.toGd hs h2) (pg_tg g.hN g.nd hs g.calm (fun _ => g.fn_) h1) (swaps_of h3) hw ha) fun sr sg o => ?_
  unfold evS at o
  refine tE_S sr sg o fun d S1 ρ1 H1 v x1 s1 g1 r1 o1 => ?_
  split at o1
  · rename_i e1 hb
    exact gT_set r1 hb g1 fun σ2 g2 _ _ => o1 _ _ Ext.refl s1 _ g2
  · exact False.elim o1
theorem loc_of {sc : Scope} {i : Nat} {x : Str} (h : locN N sc i x = true) : N[i]? = some x ∧ sc.names.lookup x = some .local := by
  unfold locN at h
  rw [Bool.and_eq_true, decide_eq_true_eq] at h
  exact ⟨h.1, isB_of h.2⟩
theorem sw2 {env : PySem.Env} {x y : Str} {px py p1 p2 : Pos} {j1 j2 : List Nat ⊕ Nat} {u v : Expr} : True := trivial
end
end MP

set_option linter.all false
set_option maxRecDepth 100000
set_option maxHeartbeats 4000000
/-! MiniPy, 21: assignments, raise. -/
namespace MP
open PySem PySem.Spec PyProof.Rows L2
section
variable {T : Tab} {N : List Str} {ad : Ad} {cfg : Cfg} {kd : KD} {k : Nat}
theorem blk_fn {env : PySem.Env} (hk : env.scope.kind = .function) : env.blockKind = .function := by unfold PySem.Env.blockKind; rw [hk]; rfl
theorem ed1 (y : Str) : [y].eraseDups = [y] := by rw [List.eraseDups_cons]; rfl
theorem swst2 {env : PySem.Env} {x y : Str} {px py p1 p2 : Pos} {j1 j2 : Nat} {u v : Expr} (hk : env.scope.kind = .function) (hx : env.scope.names.lookup x = some .local) (hy : env.scope.names.lookup y = some .local)
    (hxy : (x == y) = false) (hl : (py.line == px.line) = true) (hv : swapOk [u, v] = true) : swappedStores [.Tuple [.Name x px, .Name y py] j1 p1] (.Tuple [u, v] j2 p2) env = pure (some [x, y]) := by
  unfold swapOk at hv
  simp only [Bool.and_eq_true, Bool.not_eq_true'] at hv
  obtain ⟨⟨h1, h2⟩, h3⟩ := hv
  have kx : env.kindOf x = some .local := hx
  have ky : env.kindOf y = some .local := hy
  have h4 : ([u, v].any fun | .Starred .. => true | _ => false) = false := by
    rw [List.any_eq_false]
    intro e he
    have := (List.all_eq_true.mp h1) e he
    cases e <;> first | (intro z; cases z; done) | cases this
  have hxy' : x ≠ y := by rw [beq_eq_false_iff_ne] at hxy; exact hxy
  have e1 : ([x, y] : List Str).eraseDups = [x, y] := by
    have : (y == x) = false := by rw [beq_eq_false_iff_ne]; exact fun e => hxy' e.symm
    rw [List.eraseDups_cons]
    simp [this, ed1]
  unfold swappedStores
  have hl' : py.line = px.line := by simpa using hl
  simp only [blk_fn hk, h2, h3, kx, ky, List.filterMap_cons, List.filterMap_nil, List.head?_cons, Option.map_some, Option.getD_some, Expr.pos, beq_self_eq_true, Bool.and_self, hl', if_true]
  simp only [List.length_cons, List.length_nil, e1]
  rw [if_neg (by decide), if_neg (fun z => by
    rw [List.any_eq_true] at z
    obtain ⟨e, he, z⟩ := z
    have := List.all_eq_true.mp h1 e he
    cases e <;> first | (cases z; done) | cases this)]
  rfl
theorem swst3 {env : PySem.Env} {x y z : Str} {px py pz p1 p2 : Pos} {j1 j2 : Nat} {u v w : Expr} (hk : env.scope.kind = .function) (hx : env.scope.names.lookup x = some .local) (hy : env.scope.names.lookup y = some .local) (hz : env.scope.names.lookup z = some .local)
    (hxy : (x == y) = false) (hxz : (x == z) = false) (hyz : (y == z) = false) (hl : (py.line == px.line) = true) (hl2 : (pz.line == px.line) = true) (hv : swapOk [u, v, w] = true) :
    swappedStores [.Tuple [.Name x px, .Name y py, .Name z pz] j1 p1] (.Tuple [u, v, w] j2 p2) env = pure (some [x, y, z]) := by
  unfold swapOk at hv
  simp only [Bool.and_eq_true, Bool.not_eq_true'] at hv
  obtain ⟨⟨h1, h2⟩, h3⟩ := hv
  have kx : env.kindOf x = some .local := hx
  have ky : env.kindOf y = some .local := hy
  have kz : env.kindOf z = some .local := hz
  have h4 : ([u, v, w].any fun | .Starred .. => true | _ => false) = false := by
    rw [List.any_eq_false]
    intro e he
    have := (List.all_eq_true.mp h1) e he
    cases e <;> first | (intro z; cases z; done) | cases this
  rw [beq_eq_false_iff_ne] at hxy hxz hyz
  have e1 : ([x, y, z] : List Str).eraseDups = [x, y, z] := by
    have a1 : (y == x) = false := by rw [beq_eq_false_iff_ne]; exact fun e => hxy e.symm
    have a2 : (z == x) = false := by rw [beq_eq_false_iff_ne]; exact fun e => hxz e.symm
    have a3 : (z == y) = false := by rw [beq_eq_false_iff_ne]; exact fun e => hyz e.symm
    rw [List.eraseDups_cons]
    simp only [List.filter_cons, List.filter_nil, a1, a2, Bool.not_false, if_true]
    rw [List.eraseDups_cons]
    simp [a3, ed1]
  unfold swappedStores
  have hl' : py.line = px.line := by simpa using hl
  have hl2' : pz.line = px.line := by simpa using hl2
  simp only [blk_fn hk, h2, h3, kx, ky, kz, List.filterMap_cons, List.filterMap_nil, List.head?_cons, Option.map_some, Option.getD_some, Expr.pos, beq_self_eq_true, Bool.and_self, hl', hl2', if_true]
  simp only [List.length_cons, List.length_nil, e1]
  rw [if_neg (by decide), if_neg (fun z => by
    rw [List.any_eq_true] at z
    obtain ⟨e, he, z⟩ := z
    have := List.all_eq_true.mp h1 e he
    cases e <;> first | (cases z; done) | cases this)]
  rfl
theorem hs_par2 {i j : Nat} {a b : E} (ha : HE T N ad cfg kd k a) (hb : HE T N ad cfg kd k b) : HS T N ad cfg kd k (.par2 i j a b) := by
  intro X W sc s g hs h
  cases s <;> try (exact Bool.noConfusion (show false = true from h))
  rename_i ts v pos
  rcases ts with _ | ⟨t, ts⟩ <;> try (exact Bool.noConfusion (show false = true from h))
  cases t <;> try (exact Bool.noConfusion (show false = true from h))
  rename_i es j1 p1
  rcases es with _ | ⟨n1, _ | ⟨n2, _ | ⟨_, _⟩⟩⟩ <;> try (exact Bool.noConfusion (show false = true from h))
  all_goals (cases n1 <;> try (exact Bool.noConfusion (show false = true from h)))
  all_goals (cases n2 <;> try (exact Bool.noConfusion (show false = true from h)))
  all_goals (cases ts <;> try (exact Bool.noConfusion (show false = true from h)))
  all_goals (cases v <;> try (exact Bool.noConfusion (show false = true from h)))
  rename_i x px y py vs j2 p2
  rcases vs with _ | ⟨u, _ | ⟨v, _ | ⟨_, _⟩⟩⟩ <;> try (exact Bool.noConfusion (show false = true from h))
  simp only [chS, Bool.and_eq_true, Bool.not_eq_true', decide_eq_true_eq] at h
  obtain ⟨⟨⟨⟨⟨⟨⟨⟨h1, h2⟩, h3⟩, h4⟩, h5⟩, h6⟩, h7⟩, h8⟩, h9⟩ := h
  subst hs
  obtain ⟨n1, l1⟩ := loc_of h1
  obtain ⟨n2, l2⟩ := loc_of h2
  have st : noStar u = true ∧ noStar v = true := by
    unfold swapOk at h7
    simp only [List.all_cons, List.all_nil, Bool.and_true, Bool.and_eq_true] at h7
    exact h7.1.1
  refine hs_of (ps_par (i := i) (j := j) g.calm (by rw [g.hN]; exact g.nd) (by rw [g.hN]; exact n1) (by rw [g.hN]; exact n2) (by simpa using h3) l1 l2
    (pa_cons (ha (W := W) g.toGd rfl h5) (pa_cons (hb (W := W) g.toGd rfl h6) pa_nil (starEach_of st.2)) (starEach_of st.1)) (swst2 h9 l1 l2 h4 h8 h7)) fun sr sg o => ?_
  unfold evS at o
  refine tE_S sr sg o fun d S1 ρ1 H1 v x1 s1 g1 r1 o1 => ?_
  refine tE_S s1 g1 o1 fun d2 S2 ρ2 H2 v2 x2 s2 g2 r2 o2 => ?_
  exact ⟨_, _, rfl, o2 _ _ Ext.refl s2 _ ((g2.set i (r1.ext x2 s1)).set j r2)⟩
theorem hs_par3 {i j l : Nat} {a b c : E} (ha : HE T N ad cfg kd k a) (hb : HE T N ad cfg kd k b) (hc : HE T N ad cfg kd k c) : HS T N ad cfg kd k (.par3 i j l a b c) := by
  intro X W sc s g hs h
  cases s <;> try (exact Bool.noConfusion (show false = true from h))
  rename_i ts v pos
  rcases ts with _ | ⟨t, ts⟩ <;> try (exact Bool.noConfusion (show false = true from h))
  cases t <;> try (exact Bool.noConfusion (show false = true from h))
  rename_i es j1 p1
  rcases es with _ | ⟨n1, _ | ⟨n2, _ | ⟨n3, _ | ⟨_, _⟩⟩⟩⟩ <;> try (exact Bool.noConfusion (show false = true from h))
  all_goals (cases n1 <;> try (exact Bool.noConfusion (show false = true from h)))
  all_goals (cases n2 <;> try (exact Bool.noConfusion (show false = true from h)))
  all_goals (cases n3 <;> try (exact Bool.noConfusion (show false = true from h)))
  all_goals (cases ts <;> try (exact Bool.noConfusion (show false = true from h)))
  all_goals (cases v <;> try (exact Bool.noConfusion (show false = true from h)))
  rename_i x px y py z pz vs j2 p2
  rcases vs with _ | ⟨u, _ | ⟨v, _ | ⟨w, _ | ⟨_, _⟩⟩⟩⟩ <;> try (exact Bool.noConfusion (show false = true from h))
  simp only [chS, Bool.and_eq_true, Bool.not_eq_true', decide_eq_true_eq] at h
  obtain ⟨⟨⟨⟨⟨⟨⟨⟨⟨⟨⟨⟨⟨⟨⟨h1, h2⟩, h3⟩, h4⟩, h5⟩, h6⟩, h7⟩, h8⟩, h9⟩, ha'⟩, hb'⟩, hc'⟩, hsw⟩, hl1⟩, hl2⟩, hk⟩ := h
  subst hs
  obtain ⟨n1, l1⟩ := loc_of h1
  obtain ⟨n2, l2⟩ := loc_of h2
  obtain ⟨n3, l3⟩ := loc_of h3
  have st : noStar u = true ∧ noStar v = true ∧ noStar w = true := by
    unfold swapOk at hsw
    simp only [List.all_cons, List.all_nil, Bool.and_true, Bool.and_eq_true] at hsw
    exact hsw.1.1
  refine hs_of (ps_par3 (i := i) (j := j) (l := l) g.calm (by rw [g.hN]; exact g.nd) (by rw [g.hN]; exact n1) (by rw [g.hN]; exact n2) (by rw [g.hN]; exact n3) (by simpa using h4) (by simpa using h5) (by simpa using h6) l1 l2 l3
    (pa_cons (ha (W := W) g.toGd rfl ha') (pa_cons (hb (W := W) g.toGd rfl hb') (pa_cons (hc (W := W) g.toGd rfl hc') pa_nil (starEach_of st.2.2)) (starEach_of st.2.1)) (starEach_of st.1)) (swst3 hk l1 l2 l3 h7 h8 h9 hl1 hl2 hsw)) fun sr sg o => ?_
  unfold evS at o
  refine tE_S sr sg o fun d S1 ρ1 H1 v x1 s1 g1 r1 o1 => ?_
  refine tE_S s1 g1 o1 fun d2 S2 ρ2 H2 v2 x2 s2 g2 r2 o2 => ?_
  refine tE_S s2 g2 o2 fun d3 S3 ρ3 H3 v3 x3 s3 g3 r3 o3 => ?_
  exact ⟨_, _, _, rfl, o3 _ _ Ext.refl s3 _ (((g3.set i ((r1.ext x2 s1).ext x3 s2)).set j (r2.ext x3 s2)).set l r3)⟩
theorem hs_sset {o i e : E} (ho : HE T N ad cfg kd k o) (hi : HE T N ad cfg kd k i) (he : HE T N ad cfg kd k e) : HS T N ad cfg kd k (.sset o i e) := by
  intro X W sc s g hs h
  cases s <;> try (exact Bool.noConfusion (show false = true from h))
  rename_i ts v pos
  rcases ts with _ | ⟨t, ts⟩ <;> try (exact Bool.noConfusion (show false = true from h))
  cases t <;> try (exact Bool.noConfusion (show false = true from h))
  all_goals (cases ts <;> try (exact Bool.noConfusion (show false = true from h)))
  rename_i p q p1
  simp only [chS, Bool.and_eq_true] at h
  obtain ⟨⟨⟨⟨h1, h2⟩, h3⟩, h4⟩, h5⟩ := h
  refine hs_of (ps_asg (he (W := W) g.toGd hs h3) (pg_sub (ho (W := W) g.toGd hs h1) (hi (W := W) g.toGd hs h2) set_list (by cases q <;> first | (intro _; rfl) | cases h5)) (show swapsWith v (some (.Subscript p q p1)) pos.line X.env = pure false from swaps_of h4) (swst_none rfl) rfl) fun sr sg oo => ?_
  unfold evS at oo
  refine tE_S sr sg oo fun d S1 ρ1 H1 v x1 s1 g1 r1 o1 => ?_
  refine tE_S s1 g1 o1 fun d2 S2 ρ2 H2 v2 x2 s2 g2 r2 o2 => ?_
  refine tE_S s2 g2 o2 fun d3 S3 ρ3 H3 v3 x3 s3 g3 r3 o3 => ?_
  split at o3
  · rename_i n kk
    split at o3
    · rename_i xs hx
      split at o3
      · rename_i jj hj
        obtain ⟨a, vs, rfl, gg, h7, r7⟩ := loc_at s3 (r2.ext x3 s2) hx
        have e3 := rep_int_of r3
        subst e3
        refine ⟨a, vs, kk, jj, rfl, rfl, h7, by rw [Reps.len r7]; exact hj, ?_⟩
        exact o3 ρ3 _ (Ext.put (List.mem_of_getElem? gg)) (s3.put hx gg (Reps.set jj r7 ((r1.ext x2 s1).ext x3 s2))) _ (g3.ext (Ext.put (List.mem_of_getElem? gg)) s3)
      · exact False.elim o3
    · exact False.elim o3
  · exact False.elim o3
theorem hs_raise {c : Nat} {e : E} (he : HE T N ad cfg kd k e) : HS T N ad cfg kd k (.raise c e) := by
  intro X W sc s g hs h
  cases s <;> try (exact Bool.noConfusion (show false = true from h))
  rename_i ex cs pos
  cases ex <;> try (exact Bool.noConfusion (show false = true from h))
  rename_i ex
  cases ex <;> try (exact Bool.noConfusion (show false = true from h))
  rename_i f es kws p1
  cases f <;> try (exact Bool.noConfusion (show false = true from h))
  rcases es with _ | ⟨v, _ | ⟨_, _⟩⟩ <;> try (exact Bool.noConfusion (show false = true from h))
  all_goals (cases kws <;> try (exact Bool.noConfusion (show false = true from h)))
  all_goals (cases cs <;> try (exact Bool.noConfusion (show false = true from h)))
  rename_i x px
  simp only [chS, Bool.and_eq_true, decide_eq_true_eq] at h
  obtain ⟨⟨⟨⟨h1, h2⟩, h3⟩, h4⟩, h5⟩ := h
  obtain ⟨e1, e2, ⟨bmB, B, ni, ii, F, e3⟩, e4, e5, e6⟩ := g.fx.exs _ _ h1
  refine hs_of (MX.ps_raiseQ g.calm g.tk (MX.pmq_own F e3 e1 e2 (raises_own e4 e5) (gl_of hs h2) (he (W := W) g.toGd hs h4) (starEach_of h5) (nmOk_d h3))) fun sr sg o => ?_
  unfold evS at o
  refine tE_S sr sg o fun d S1 ρ1 H1 v x1 s1 g1 r1 o1 => ?_
  intro t ht
  have xx : Ext ρ1 H1 ρ1 (upd H1 t (.tup [v])) := Ext.fresh ht
  exact o1 ρ1 _ _ xx (s1.fresh ht) (g1.ext xx s1) t v upd_same (r1.ext xx s1)
end
end MP

set_option linter.all false
set_option maxRecDepth 100000
set_option maxHeartbeats 4000000
/-! MiniPy, 22: loops, try. -/
namespace MP
open PySem PySem.Spec PyProof.Rows L2
section
variable {T : Tab} {N : List Str} {ad : Ad} {cfg : Cfg} {kd : KD} {k : Nat}
theorem hs_aug {i : Nat} {o : BO} {e : E} (he : HE T N ad cfg kd k e) : HS T N ad cfg kd k (.aug i o e) := by
  intro X W sc s g hs h
  cases s <;> try (exact Bool.noConfusion (show false = true from h))
  rename_i t op v pos
  cases t <;> try (exact Bool.noConfusion (show false = true from h))
  rename_i x px
  simp only [chS, Bool.and_eq_true, Bool.or_eq_true, decide_eq_true_eq] at h
  obtain ⟨⟨⟨⟨h1, h2⟩, h3⟩, h4⟩, h5⟩ := h
  have hop := op_of h4
  subst hop hs
  have hx : Loc X.env.scope x := by rcases h2 with h2 | h2; exact .inl (isB_of h2); exact .inr (isB_of h2)
  have fin : ∀ {ti : TIp}, PIp X (bop o) ti → (∀ {ρ : List Addr} {H : Hp} {d d2 d3 : MP.D} {x y : V} {Q : VK}, Rep ⟨X.K, kd⟩ ρ H d x → Rep ⟨X.K, kd⟩ ρ H d2 y → augR o d d2 = some d3 → (∀ z, Rep ⟨X.K, kd⟩ ρ H d3 z → Q z H) → ti x y H Q) →
      PS X (.AugAssign (.Name x px) (bop o) v pos) (tS ad ⟨X.K, kd⟩ cfg W (.aug i o e)) := by
    intro ti hp ht
    refine hs_of (ps_aug (i := i) (by rw [g.hN]; exact g.nd) (by rw [g.hN]; exact h1) hx (he (W := W) g.toGd rfl h3) hp (.inl (g.fn_ _))) fun sr sg oo => ?_
    unfold evS at oo
    split at oo
    · rename_i d hd
      obtain ⟨xv, e1, r0⟩ := sg.at_ i d hd
      refine ⟨xv, e1, ?_⟩
      refine tE_S sr sg oo fun d2 S1 ρ1 H1 v1 x1 s1 g1 r1 o1 => ?_
      split at o1
      · rename_i d3 h3
        exact ht (r0.ext x1 sr) r1 h3 fun z rz => o1 _ _ Ext.refl s1 _ (g1.set i rz)
      · exact False.elim o1
    · exact False.elim oo
  cases o <;> try (exact Bool.noConfusion (show false = true from h5))
  · refine fin (OpR.or iop_add iop_add_str) fun {ρ H d d2 d3 x y Q} rx ry oo q => ?_
    cases d <;> cases d2 <;> simp only [augR, reduceCtorEq] at oo
    · cases oo
      rw [rep_int_of rx, rep_int_of ry]
      exact .inl ⟨_, _, rfl, rfl, q _ rep_int⟩
    · split at oo
      · cases oo
        rw [rep_str_of rx, rep_str_of ry]
        exact .inr ⟨_, _, rfl, rfl, by assumption, q _ rep_str⟩
      · cases oo
  · refine fin iop_sub fun {ρ H d d2 d3 x y Q} rx ry oo q => ?_
    cases d <;> cases d2 <;> simp only [augR, reduceCtorEq] at oo
    cases oo
    rw [rep_int_of rx, rep_int_of ry]
    exact ⟨_, _, rfl, rfl, q _ rep_int⟩
  · refine fin (ti := rI CMulW fun i j => .int (i * j)) (opI fun _ _ _ _ _ _ _ hc q => imul_int q hc.ok) fun {ρ H d d2 d3 x y Q} rx ry oo q => ?_
    cases d <;> cases d2 <;> simp only [augR, reduceCtorEq] at oo
    split at oo
    · cases oo
      rw [rep_int_of rx, rep_int_of ry]
      exact ⟨_, _, rfl, rfl, by show _ < _; omega, q _ rep_int⟩
    · cases oo
theorem hs_asgc {i : Nat} {mu : Bool} {elt : E} {tg : Tg} {it : It} {ifs : Eo} {own : List Nat} (ha : ∀ ex, HE T N ad cfg ⟨kd.pr, ex⟩ k elt) (hb : ∀ ex, HB T N ad cfg ⟨kd.pr, ex⟩ k ifs) (hi : HI T N ad cfg kd k it) :
    HS T N ad cfg kd k (.asgc i (.comp mu elt tg it ifs own)) := by
  intro X W sc s g hs h
  cases s <;> try (exact Bool.noConfusion (show false = true from h))
  rename_i ts v pos
  rcases ts with _ | ⟨t, ts⟩ <;> try (exact Bool.noConfusion (show false = true from h))
  cases t <;> try (exact Bool.noConfusion (show false = true from h))
  all_goals (cases ts <;> try (exact Bool.noConfusion (show false = true from h)))
  all_goals (cases v <;> try (exact Bool.noConfusion (show false = true from h)))
  rename_i y py a b scope0 p0
  simp only [chS, Bool.and_eq_true, Bool.not_eq_true', decide_eq_true_eq] at h
  obtain ⟨⟨⟨⟨h1, h2⟩, h3⟩, h4⟩, h5⟩ := h
  obtain ⟨n1, l1⟩ := loc_of h1
  obtain ⟨x, t, it', is, scope, p, he, q1, q2, q3, q4, q5, q6⟩ := ch_comp h2
  cases he
  subst hs
  refine ⟨fun pins s σ H D I ⟨ρ, S, env, sr, sg, oo⟩ => ?_⟩
  have hsw := sw_true (elt := a) (gs := [⟨t, it', is, 0⟩]) (scope := scope0) (pos := p0) (py := py) (y := y) (l := pos.line) (env := X.env) h5 l1 h3 h4
  unfold evS at oo
  have hq : tE ad ⟨X.K, kd⟩ cfg W (.comp mu elt tg it ifs own) σ H fun v J => D.nx (σ.set i (some v)) J := tE_S sr sg oo fun d S1 ρ1 H1 v x1 s1 g1 r1 o1 => o1 _ _ Ext.refl s1 _ (g1.set i r1)
  rw [exec_Assign_Name_used _ _ _ _ hsw]
  refine wpAny_bind (wpAny_standAt (wpAny_bind ?_))
  show wpAny _ X.A (do
    let _ ← comprehension (.ListComp a [⟨t, it', is, 0⟩] scope0 p0) scope0 X.env (firstIterPos [⟨t, it', is, 0⟩] p0) (newList []) false (eval it' X.env) (some (assign (.Name y py) X.env))) _ _ s
  refine wpAny_bind (thn (lc_run (Qf := fun _ s' => SP X pins D .next s') ha hb hi g.toGd rfl q1 q2 q3 q4 q5 q6 I hq fun L C s' m H' I' q hn f => ?_) fun _ s' hz => wpAny_pure (wpAny_pure hz))
  show wpAny _ _ (assign (.Name y py) X.env (.ref L)) _ _ _
  refine wpAny_assign_Name (store_ok2 (v := V.ref L) I' (by rw [g.hN]; exact g.nd) (i := i) (by rw [g.hN]; exact n1) (.inl l1) rfl (fun s2 I2 ⟨a, sb, ha⟩ => ?_) (.inr l1))
  obtain ⟨f0, f1, f2, f3, f4, f5⟩ := f
  have haC : C ≠ a := by
    rcases ha with z | z
    · rw [z]; exact f1
    · exact fun e => f4 y a z e.symm
  exact ⟨m, hn.sameBut sb haC, fun h3 sb3 => ⟨_, H', I2.turned (t' := s2.toks) (fun b o hb e => (sb3.2 b hb).trans e) f0 f1 f3 f4 f5, q⟩⟩
/-! ### loops -/
theorem hs_whl {c : E} {b : Sts} (hc : HT T N ad cfg kd k c) (hb : HSs T N ad cfg kd k b) : HS T N ad cfg kd k (.whl c b) := by
  intro X W sc s g hs h
  cases s <;> try (exact Bool.noConfusion (show false = true from h))
  rename_i x p els pos
  cases els <;> try (exact Bool.noConfusion (show false = true from h))
  simp only [chS, Bool.and_eq_true] at h
  obtain ⟨⟨h1, h2⟩, h3⟩ := h
  refine hs_of (ps_while g.own (hc (W := W) g.toGd hs h1 h2).1 (hb (W := W) g hs h3)) fun {D σ H ρ S env} sr sg o => ?_
  unfold evS at o
  refine ⟨fun n σ H => ∃ ρ S env, SR ⟨X.K, kd⟩ ad.cls ρ S H ∧ Sig ⟨X.K, kd⟩ ρ H env σ ∧ OutS ad ⟨X.K, kd⟩ (whlL (fun env S => evE cfg c env S) (fun env S => evSs cfg b env S) n env S) ρ H D W, ⟨_, ρ, S, env, sr, sg, o⟩, ?_⟩
  rintro m σ2 H2 ⟨ρ2, S2, env2, s2, g2, o2⟩
  cases m with
  | zero => exact False.elim o2
  | succ n =>
    unfold whlL at o2
    refine tE_S s2 g2 o2 fun d S3 ρ3 H3 v x3 s3 g3 r3 o3 => ?_
    cases d with
    | bl bb =>
      refine ⟨bb, rep_bl_of' r3, ?_⟩
      cases bb with
      | false => exact o3 _ _ Ext.refl s3 _ g3
      | true =>
        refine ⟨fun σ H => ∃ ρ S env, SR ⟨X.K, kd⟩ ad.cls ρ S H ∧ Sig ⟨X.K, kd⟩ ρ H env σ ∧ OutS ad ⟨X.K, kd⟩ (whlL (fun env S => evE cfg c env S) (fun env S => evSs cfg b env S) n env S) ρ H D W, fun σ' H' q => ⟨n, Nat.lt_succ_self _, q⟩, ρ3, S3, env2, s3, g3, ?_⟩
        dsimp only at o3
        cases q : evSs cfg b env2 S3 with
        | bad => rw [q] at o3; exact o3
        | exc c m e S => rw [q] at o3; exact o3
        | ok f env4 S4 =>
          rw [q] at o3
          cases f with
          | nx => exact fun ρ' H' x s σ' sg' => ⟨ρ', S4, env4, s, sg', OutS.at_ o3 x⟩
          | ct => exact fun ρ' H' x s σ' sg' => ⟨ρ', S4, env4, s, sg', OutS.at_ o3 x⟩
          | bk => exact o3
          | rt d => exact o3
    | _ => exact False.elim o3
theorem hs_for {tg : Tg} {it : It} {b : Sts} (hi : HI T N ad cfg kd k it) (hb : HSs T N ad cfg kd k b) : HS T N ad cfg kd k (.for_ tg it b) := by
  intro X W sc s g hs h
  cases s <;> try (exact Bool.noConfusion (show false = true from h))
  rename_i t i p els pos
  cases els <;> try (exact Bool.noConfusion (show false = true from h))
  simp only [chS, Bool.and_eq_true] at h
  obtain ⟨⟨h1, h2⟩, h3⟩ := h
  obtain ⟨pi, ns⟩ := hi (tg := t) (W := W) g.toGd hs h2
  refine hs_of (ps_for g.own g.calm pi (pg_tg g.hN g.nd hs g.calm (fun _ => g.fn_) h1) (hb (W := W) g hs h3) (folded_of ns)) fun {D σ H ρ S env} sr sg o => ?_
  unfold evS at o
  refine ⟨ρ, S, env, sr, sg, (OutS.toS sr sg o).mono (fun w S1 ρ1 H1 x1 s1 o1 J wk => ?_) fun _ _ _ _ _ _ _ z => z⟩
  refine ⟨fun i m σ H => m = w.items.length - i ∧ i ≤ w.items.length ∧ ∃ ρ S env, SR ⟨X.K, kd⟩ ad.cls ρ S H ∧ Sig ⟨X.K, kd⟩ ρ H env σ ∧ WkOk ⟨X.K, kd⟩ ρ H w J ∧
    OutS ad ⟨X.K, kd⟩ (forL w (fun d env S => match bindTg tg env d with
      | some env1 => evSs cfg b env1 S
      | none => .bad) (w.items.drop i) env S) ρ H D W, ⟨_, rfl, Nat.zero_le _, ρ1, S1, env, s1, sg.ext x1 sr, wk, o1⟩, ?_⟩
  rintro i m σ2 H2 ⟨rfl, hl, ρ2, S2, env2, s2, g2, wk2, o2⟩
  by_cases hlt : i < w.items.length
  · obtain ⟨d, hd⟩ : ∃ d, w.items[i]? = some d := ⟨_, List.getElem?_eq_getElem hlt⟩
    have hdrop : w.items.drop i = d :: w.items.drop (i + 1) := by
      rw [List.drop_eq_getElem_cons hlt]
      rw [List.getElem?_eq_getElem hlt] at hd
      rw [Option.some.inj hd]
    rw [hdrop] at o2
    unfold forL at o2
    split at o2
    rotate_left
    · exact False.elim o2
    rename_i hst
    obtain ⟨u1, u2⟩ := wk2.use s2 hst i
    obtain ⟨go, yl⟩ := u1 d hd
    refine .inr ⟨go, fun σ H => ∃ ρ S env, SR ⟨X.K, kd⟩ ad.cls ρ S H ∧ Sig ⟨X.K, kd⟩ ρ H env σ ∧ WkOk ⟨X.K, kd⟩ ρ H w J ∧
      OutS ad ⟨X.K, kd⟩ (forL w (fun d env S => match bindTg tg env d with
        | some env1 => evSs cfg b env1 S
        | none => .bad) (w.items.drop (i + 1)) env S) ρ H D W, fun σ' H' q => ⟨_, by omega, rfl, hlt, q⟩, fun x H' y => ?_⟩
    obtain ⟨rfl, rx⟩ := yl x H' y
    cases hbt : bindTg tg env2 d with
    | none => rw [hbt] at o2; exact False.elim o2
    | some e1 =>
      rw [hbt] at o2
      dsimp only at o2
      refine gT_set rx hbt g2 fun σ3 g3 _ _ => ⟨ρ2, S2, e1, s2, g3, ?_⟩
      cases q : evSs cfg b e1 S2 with
      | bad => rw [q] at o2; exact o2
      | exc c m e S => rw [q] at o2; exact o2
      | ok f env4 S4 =>
        rw [q] at o2
        cases f with
        | nx => exact fun ρ' H' x s σ' sg' => ⟨ρ', S4, env4, s, sg', wk2.ext x s2, OutS.at_ o2 x⟩
        | ct => exact fun ρ' H' x s σ' sg' => ⟨ρ', S4, env4, s, sg', wk2.ext x s2, OutS.at_ o2 x⟩
        | bk => exact o2
        | rt d => exact o2
  · have e : w.items.drop i = [] := by rw [List.drop_eq_nil_iff]; omega
    rw [e] at o2
    unfold forL at o2
    split at o2
    · rename_i hst
      exact .inl ⟨(wk2.use s2 hst i).2 (by omega), o2 _ _ Ext.refl s2 _ g2⟩
    · exact False.elim o2
/-! ### try -/
def simV : E → V
  | .bl b => .bl b
  | .int i => .int i
  | .str x => .str x
  | _ => .non
theorem pe_sim {X : Cx} {sc : Scope} {e : E} {v : Expr} (h1 : simpleE e = true) (h : chE T N sc e v = true) : PE X v (tC (simV e)) := by
  cases e <;> try (cases h1; done)
  all_goals (cases v <;> try (exact Bool.noConfusion (show false = true from h)))
  all_goals (rename_i c j p; cases c <;> try (exact Bool.noConfusion (show false = true from h)))
  · exact pe_non
  · simp only [chE, beq_iff_eq] at h; subst h; exact pe_bl
  · simp only [chE, beq_iff_eq] at h; subst h; exact pe_int
  · simp only [chE, beq_iff_eq] at h; subst h; exact pe_str
theorem ev_sim {cfg : Cfg} {e : E} {env : Env} {S : Sto} (h1 : simpleE e = true) : ∃ d, evE cfg e env S = .ok d S ∧ ∀ (K : KF) (ρ : List Addr) (H : Hp), Rep K ρ H d (simV e) := by
  cases e <;> try (cases h1; done)
  · exact ⟨_, by unfold evE; rfl, fun _ _ _ => rep_non⟩
  · exact ⟨_, by unfold evE; rfl, fun _ _ _ => rep_bl⟩
  · exact ⟨_, by unfold evE; rfl, fun _ _ _ => rep_int⟩
  · exact ⟨_, by unfold evE; rfl, fun _ _ _ => rep_str⟩
theorem hs_try {b : Sts} {c : Nat} {e : E} (hb : HSs T N ad cfg kd k b) : HS T N ad cfg kd k (.tryx b c none (.cons (.ret e) .nil)) := by
  intro X W sc s g hs h
  cases s <;> try (exact Bool.noConfusion (show false = true from h))
  rename_i p hds els fin pos
  rcases hds with _ | ⟨hd, hds⟩ <;> try (exact Bool.noConfusion (show false = true from h))
  cases hd <;> try (exact Bool.noConfusion (show false = true from h))
  rename_i ty nm su hp
  cases ty <;> try (exact Bool.noConfusion (show false = true from h))
  rename_i ty
  cases ty <;> try (exact Bool.noConfusion (show false = true from h))
  cases nm <;> try (exact Bool.noConfusion (show false = true from h))
  rcases su with _ | ⟨s0, su⟩ <;> try (exact Bool.noConfusion (show false = true from h))
  cases s0 <;> try (exact Bool.noConfusion (show false = true from h))
  rename_i x px rv rp
  cases rv <;> try (exact Bool.noConfusion (show false = true from h))
  cases su <;> try (exact Bool.noConfusion (show false = true from h))
  cases hds <;> try (exact Bool.noConfusion (show false = true from h))
  cases els <;> try (exact Bool.noConfusion (show false = true from h))
  cases fin <;> try (exact Bool.noConfusion (show false = true from h))
  rename_i v
  simp only [chS, Bool.and_eq_true, decide_eq_true_eq] at h
  obtain ⟨⟨⟨⟨⟨h1, h2⟩, h3⟩, h4⟩, h5⟩, h6⟩ := h
  obtain ⟨e1, e2, _, e4, e5, e6⟩ := g.fx.exs _ _ h2
  have hN : Names X x (.ref (ad.exc c)) := ⟨gl_of hs h3, nmOk_d h4, .inl e1⟩
  refine hs_of (MX.ps_tryQ (tb := fun W => tSs ad ⟨X.K, kd⟩ cfg W b) (ts := fun _ _ _ => tRet (tC (simV e))) g.hs_ g.hf_ hN g.tk
    (fun W' pn xe tk own => hb (W := W') (X := X.tr pn xe) ⟨⟨g.hN, g.nd, g.calm, g.room, g.grd, tk, g.stk, g.frm, g.fx⟩, own, g.hs_, g.hf_, g.fn_⟩ hs h1)
    (fun a ob kk t pn _ => pss_one (ps_ret (pe_sim h5 h6)))) fun {D σ H ρ S env} sr sg o => ?_
  unfold evS at o
  refine ⟨ρ, S, env, sr, sg, ?_⟩
  cases q : evSs cfg b env S with
  | bad => rw [q] at o; exact o
  | ok f env4 S4 => rw [q] at o; exact o
  | exc j m env4 S4 =>
    rw [q] at o
    dsimp only at o
    split at o
    · rename_i hj
      subst hj
      intro ρ' H' σ' x' s' g' t tv ht rt
      refine ⟨true, e6, fun _ a ha => ?_, nofun⟩
      obtain ⟨d, hd, rd⟩ := ev_sim (cfg := cfg) (env := env4) (S := S4) h5
      unfold evSs evS at o
      rw [hd] at o
      exact o ρ' H' x' s' _ (rd _ _ _)
    · exact False.elim o
theorem hss_nil : HSs T N ad cfg kd k .nil := by
  intro X W sc s g hs h
  cases s with
  | nil =>
    refine pss_nil.imp fun D σ H ⟨ρ, S, env, sr, sg, o⟩ => ?_
    unfold evSs at o
    exact o _ _ Ext.refl sr _ sg
  | cons _ _ => exact Bool.noConfusion (show false = true from h)
theorem hss_cons {a : MP.St} {as : Sts} (ha : HS T N ad cfg kd k a) (hb : HSs T N ad cfg kd k as) : HSs T N ad cfg kd k (.cons a as) := by
  intro X W sc s g hs h
  cases s with
  | nil => exact Bool.noConfusion (show false = true from h)
  | cons x xs =>
    simp only [chSs, Bool.and_eq_true] at h
    refine (pss_cons (ha (W := W) g hs h.1) (hb (W := W) g hs h.2)).imp fun D σ H ⟨ρ, S, env, sr, sg, o⟩ => ?_
    unfold evSs at o
    refine ⟨ρ, S, env, sr, sg, ?_⟩
    cases q : evS cfg a env S with
    | bad => rw [q] at o; exact o
    | exc c m e S => rw [q] at o; exact o
    | ok f env4 S4 =>
      rw [q] at o
      cases f with
      | nx => exact fun ρ' H' x s σ' sg' => ⟨ρ', S4, env4, s, sg', OutS.at_ o x⟩
      | ct => exact o
      | bk => exact o
      | rt d => exact o
end
end MP

set_option linter.all false
set_option maxRecDepth 100000
set_option maxHeartbeats 4000000
/-! MiniPy, 23: all statements, defs. -/
namespace MP
open PySem PySem.Spec PyProof.Rows L2
section
variable (T : Tab) (N : List Str) (ad : Ad) (cfg : Cfg) (pr : Addr → List (Str × Str) → Prop) (k : Nat)
theorem hs_false {m : MP.St} {kd : KD} (h : ∀ (sc : Scope) (s : Stmt), chS T N sc m s = false) : HS T N ad cfg kd k m := fun {X W sc s} _ _ q => by rw [h] at q; cases q
theorem asgc_false {i : Nat} {e : E} (h : ∀ mu elt tg it ifs own, e ≠ .comp mu elt tg it ifs own) {kd : KD} : HS T N ad cfg kd k (.asgc i e) := by
  intro X W sc s g hs q
  exfalso
  cases s <;> try (exact Bool.noConfusion (show false = true from q))
  rename_i ts v pos
  rcases ts with _ | ⟨t, ts⟩ <;> try (exact Bool.noConfusion (show false = true from q))
  cases t <;> try (exact Bool.noConfusion (show false = true from q))
  all_goals (cases ts <;> try (exact Bool.noConfusion (show false = true from q)))
  all_goals (cases v <;> try (exact Bool.noConfusion (show false = true from q)))
  simp only [chS, Bool.and_eq_true] at q
  have := q.1.1.1.2
  cases e <;> first
    | exact absurd rfl (h _ _ _ _ _ _)
    | exact Bool.noConfusion (show false = true from this)
    | (rename_i m _ as; cases m <;> cases as <;> exact Bool.noConfusion (show false = true from this))
    | (rename_i b _; cases b <;> exact Bool.noConfusion (show false = true from this))
mutual
theorem s_all : ∀ (m : MP.St) (ex : List Addr), HS T N ad cfg ⟨pr, ex⟩ k m
  | .asg t e, ex => hs_asg (e_all T N ad cfg pr k e ex).1
  | .asgc i e, ex => by
    by_cases q : ∃ mu elt tg it ifs own, e = .comp mu elt tg it ifs own
    · obtain ⟨mu, elt, tg, it, ifs, own, rfl⟩ := q
      exact hs_asgc (fun ex => (e_all T N ad cfg pr k elt ex).1) (fun ex => (eo_all T N ad cfg pr k ifs ex).2) (it_all T N ad cfg pr k it ex)
    · exact asgc_false T N ad cfg k fun a b c d e f z => q ⟨a, b, c, d, e, f, z⟩
  | .par2 i j a b, ex => hs_par2 (e_all T N ad cfg pr k a ex).1 (e_all T N ad cfg pr k b ex).1
  | .par3 i j l a b c, ex => hs_par3 (e_all T N ad cfg pr k a ex).1 (e_all T N ad cfg pr k b ex).1 (e_all T N ad cfg pr k c ex).1
  | .sset o i e, ex => hs_sset (e_all T N ad cfg pr k o ex).1 (e_all T N ad cfg pr k i ex).1 (e_all T N ad cfg pr k e ex).1
  | .fset o f e, ex => hs_false T N ad cfg k fun _ s => by cases s <;> rfl
  | .aug i o e, ex => hs_aug (e_all T N ad cfg pr k e ex).1
  | .faug o f b e, ex => hs_false T N ad cfg k fun _ s => by cases s <;> rfl
  | .xpr e, ex => hs_xpr (e_all T N ad cfg pr k e ex).1
  | .ifs c a b, ex => hs_ifs (e_all T N ad cfg pr k c ex).2 (ss_all a ex) (ss_all b ex)
  | .whl c b, ex => hs_whl (e_all T N ad cfg pr k c ex).2 (ss_all b ex)
  | .for_ t it b, ex => hs_for (it_all T N ad cfg pr k it ex) (ss_all b ex)
  | .ret e, ex => hs_ret (e_all T N ad cfg pr k e ex).1
  | .retn, ex => hs_retn
  | .raise c e, ex => hs_raise (e_all T N ad cfg pr k e ex).1
  | .tryx b c none (.cons (.ret e) .nil), ex => hs_try (ss_all b ex)
  | .tryx b c (some n) h, ex => hs_false T N ad cfg k fun _ s => by cases s <;> rfl
  | .tryx b c none .nil, ex => hs_false T N ad cfg k fun _ s => by cases s <;> rfl
  | .tryx b c none (.cons (.ret e) (.cons _ _)), ex => hs_false T N ad cfg k fun _ s => by cases s <;> rfl
  | .tryx b c none (.cons (.asg _ _) _), ex => hs_false T N ad cfg k fun _ s => by cases s <;> rfl
  | .tryx b c none (.cons (.asgc _ _) _), ex => hs_false T N ad cfg k fun _ s => by cases s <;> rfl
  | .tryx b c none (.cons (.par2 _ _ _ _) _), ex => hs_false T N ad cfg k fun _ s => by cases s <;> rfl
  | .tryx b c none (.cons (.par3 _ _ _ _ _ _) _), ex => hs_false T N ad cfg k fun _ s => by cases s <;> rfl
  | .tryx b c none (.cons (.sset _ _ _) _), ex => hs_false T N ad cfg k fun _ s => by cases s <;> rfl
  | .tryx b c none (.cons (.fset _ _ _) _), ex => hs_false T N ad cfg k fun _ s => by cases s <;> rfl
  | .tryx b c none (.cons (.aug _ _ _) _), ex => hs_false T N ad cfg k fun _ s => by cases s <;> rfl
  | .tryx b c none (.cons (.faug _ _ _ _) _), ex => hs_false T N ad cfg k fun _ s => by cases s <;> rfl
  | .tryx b c none (.cons (.xpr _) _), ex => hs_false T N ad cfg k fun _ s => by cases s <;> rfl
  | .tryx b c none (.cons (.ifs _ _ _) _), ex => hs_false T N ad cfg k fun _ s => by cases s <;> rfl
  | .tryx b c none (.cons (.whl _ _) _), ex => hs_false T N ad cfg k fun _ s => by cases s <;> rfl
  | .tryx b c none (.cons (.for_ _ _ _) _), ex => hs_false T N ad cfg k fun _ s => by cases s <;> rfl
  | .tryx b c none (.cons .retn _), ex => hs_false T N ad cfg k fun _ s => by cases s <;> rfl
  | .tryx b c none (.cons (.raise _ _) _), ex => hs_false T N ad cfg k fun _ s => by cases s <;> rfl
  | .tryx b c none (.cons (.tryx _ _ _ _) _), ex => hs_false T N ad cfg k fun _ s => by cases s <;> rfl
  | .tryx b c none (.cons .pas _), ex => hs_false T N ad cfg k fun _ s => by cases s <;> rfl
  | .tryx b c none (.cons .brk _), ex => hs_false T N ad cfg k fun _ s => by cases s <;> rfl
  | .tryx b c none (.cons .cnt _), ex => hs_false T N ad cfg k fun _ s => by cases s <;> rfl
  | .pas, ex => hs_pas
  | .brk, ex => hs_brk
  | .cnt, ex => hs_cnt
theorem ss_all : ∀ (m : Sts) (ex : List Addr), HSs T N ad cfg ⟨pr, ex⟩ k m
  | .nil, ex => hss_nil
  | .cons a as, ex => hss_cons (s_all a ex) (ss_all as ex)
end
end
/-! ### what is forgotten behind a call -/
section
variable {K : KF} {cls : Nat → Addr} {ρ ρ2 : List Addr} {H H2 : Hp} {S S2 : Sto}
mutual
theorem Rep.cut {n : Nat} : ∀ {d : MP.D} {v : V}, d.inf n = true → Rep K ρ2 H d v → Rep K (ρ2.take n) H d v
  | .non, _, _, r => r
  | .bl _, _, _, r => r
  | .int _, _, _, r => r
  | .str _, _, _, r => r
  | .tup ds, _, i, r => by
    unfold D.inf at i
    unfold Rep at r ⊢
    obtain ⟨a, vs, e, q, r⟩ := r
    exact ⟨a, vs, e, q, Reps.cut i r⟩
  | .lst ds, _, i, r => by
    unfold D.inf at i
    unfold Rep at r ⊢
    obtain ⟨a, vs, e, q, n, r⟩ := r
    exact ⟨a, vs, e, q, ⟨fun m => n.1 (List.mem_of_mem_take m), n.2⟩, Reps.cut i r⟩
  | .scr ns, _, _, r => by
    unfold Rep at r ⊢
    obtain ⟨a, e, q⟩ := r
    refine ⟨a, e, ?_⟩
    rcases q with ⟨q, n⟩ | q
    · exact .inl ⟨q, fun m => n.1 (List.mem_of_mem_take m), n.2⟩
    · exact .inr q
  | .loc j, _, i, r => by
    unfold D.inf at i
    unfold Rep at r ⊢
    obtain ⟨a, e, q⟩ := r
    exact ⟨a, e, by rw [List.getElem?_take_of_lt (of_decide_eq_true i)]; exact q⟩
  | .dct kvs, _, _, r => by
    unfold Rep at r ⊢
    obtain ⟨a, e, q⟩ := r
    refine ⟨a, e, ?_⟩
    rcases q with ⟨q, n⟩ | q
    · exact .inl ⟨q, fun m => n.1 (List.mem_of_mem_take m), n.2⟩
    · exact .inr q
theorem Reps.cut {n : Nat} : ∀ {ds : List MP.D} {vs : List V}, D.infs n ds = true → Reps K ρ2 H ds vs → Reps K (ρ2.take n) H ds vs
  | [], _, _, r => by unfold Reps at r ⊢; exact r
  | d :: ds, _, i, r => by
    unfold D.infs at i
    rw [Bool.and_eq_true] at i
    unfold Reps at r ⊢
    obtain ⟨v, vs, e, h1, h2⟩ := r
    exact ⟨v, vs, e, Rep.cut i.1 h1, Reps.cut i.2 h2⟩
end
theorem SR.cut (s : SR K cls ρ2 S2 H2) {n : Nat} (h : (S2.take n).all (Ob.inf n) = true) : SR K cls (ρ2.take n) (S2.take n) H2 := by
  rw [List.all_eq_true] at h
  refine ⟨by rw [List.length_take, List.length_take, s.len], (List.take_sublist n ρ2).nodup s.nd, fun j ds a hj g => ?_, fun j c fs a hj g => ?_, fun a m => ⟨fun q => (s.exo a m).1 (List.mem_of_mem_take q), (s.exo a m).2⟩⟩
  · have hi := h _ (List.mem_of_getElem? hj)
    have hl : j < n := by
      have := (List.getElem?_eq_some_iff.mp hj).1
      rw [List.length_take] at this; omega
    rw [List.getElem?_take_of_lt hl] at hj g
    obtain ⟨vs, e, r⟩ := s.lst j ds a hj g
    exact ⟨vs, e, Reps.cut hi r⟩
  · have hi := h _ (List.mem_of_getElem? hj)
    have hl : j < n := by
      have := (List.getElem?_eq_some_iff.mp hj).1
      rw [List.length_take] at this; omega
    rw [List.getElem?_take_of_lt hl] at hj g
    obtain ⟨dx, gs, e, e2, r, nd⟩ := s.ins j c fs a hj g
    exact ⟨dx, gs, e, e2, Reps.cut hi r, nd⟩
theorem Ext.back (x : Ext ρ H ρ2 H2) : Ext ρ H ρ H2 := ⟨⟨[], by simp⟩, x.per, fun a m n => absurd m n⟩
theorem Ext.take (x : Ext ρ H ρ2 H2) : ρ2.take ρ.length = ρ := by
  obtain ⟨t, e⟩ := x.pre
  rw [e]; simp
theorem Out.gc {r : R MP.D} {Q : MP.D → List Addr → Hp → Prop} {XX : Nat → MP.D → List Addr → Hp → Prop} (hS : ρ.length = S.length)
    (hQ : ∀ d n ρ' H', d.inf n = true → Q d (ρ'.take n) H' → Q d ρ' H') (hX : ∀ c d n ρ' H', d.inf n = true → XX c d (ρ'.take n) H' → XX c d ρ' H')
    (h : Out K cls (gcR S.length r) ρ H (fun d _ ρ' H' => Q d ρ' H') (fun c d _ ρ' H' => XX c d ρ' H')) : Out K cls r ρ H (fun d _ ρ' H' => Q d ρ' H') (fun c d _ ρ' H' => XX c d ρ' H') := by
  cases r with
  | bad => exact h
  | ok d S2 =>
    unfold gcR at h
    dsimp only at h
    split at h
    · rename_i hi
      rw [Bool.and_eq_true] at hi
      intro ρ' H' x s
      have ht := x.take
      rw [hS] at ht
      refine hQ d S.length ρ' H' hi.1 ?_
      have s2 := s.cut hi.2
      rw [ht] at s2 ⊢
      exact h ρ H' x.back s2
    · exact h
  | exc c d S2 =>
    unfold gcR at h
    dsimp only at h
    split at h
    · rename_i hi
      rw [Bool.and_eq_true] at hi
      intro ρ' H' x s
      have ht := x.take
      rw [hS] at ht
      refine hX c d S.length ρ' H' hi.1 ?_
      have s2 := s.cut hi.2
      rw [ht] at s2 ⊢
      exact h ρ H' x.back s2
    · exact h
end
end MP

set_option linter.all false
set_option maxRecDepth 100000
set_option maxHeartbeats 4000000
/-! MiniPy, 24: defs. -/
namespace MP
open PySem PySem.Spec PyProof.Rows L2

/-- a def as it stands in the written part -/
structure DefFx (T : Tab) (ad : Ad) (K : PySem.W.Frag) (i : Nat) (d : Def) (N ps : List Str) : Prop where
  at_ : ∃ (name qual : Str) (params : Arguments) (body : List Stmt) (scope : Scope) (dV kV doc pm cdv ct oc : Value) (an od : Option Addr) (osl : Array (Option Value)),
    K.lookup (ad.fn i) = some ⟨oc, od, .func (PySem.W.fnOf name qual params body scope dV kV doc pm an cdv ct), osl⟩ ∧ ad.fd i = PySem.W.fnOf name qual params body scope dV kV doc pm an cdv ct ∧
    PySem.W.codeIn K cdv qual = true ∧ FnScope N ps scope ∧ chSs T N scope d.body body = true
  np : ps.length = d.np
  ns : N.length = d.ns
  bind : Binds K (ad.fd i) ps []
/-- all but the defs' promises -/
structure Fx0 (T : Tab) (ad : Ad) (P : Prog) (pr : Addr → List (Str × Str) → Prop) (w : World) (K : PySem.W.Frag) (mg : Str → Option Value) : Prop where
  blt : ∀ x ∈ bltL, mg x = none
  fns : ∀ i x, T.fns[i]? = some x → mg x = some (.ref (ad.fn i)) ∧ PySem.W.keepIn K (.ref (ad.fn i)) = true ∧ ∃ d N ps, P.defs[i]? = some d ∧ DefFx T ad K i d N ps
  gls : ∀ g x, T.gls[g]? = some x → ∃ u v, mg x = some u ∧ RelV v u ∧ ∀ ex ρ H, Rep ⟨K, ⟨pr, ex⟩⟩ ρ H (P.glbs.getD g .non) v
  exs : ∀ i x, T.exs[i]? = some x → mg x = some (.ref (ad.exc i)) ∧ PySem.W.keepIn K (.ref (ad.exc i)) = true ∧
    (∃ (bmB : List Value) (B newId initId : String), ExcBaseFacts B newId initId bmB ∧ PySem.W.excIn K (ad.exc i) bmB newId = true) ∧
    PySem.W.subIn K (.ref (ad.exc i)) (.type "BaseException") = some true ∧ PySem.W.typeIn K (.ref (ad.exc i)) = some (.type "type") ∧ PySem.W.exmOne K (.ref (ad.exc i)) (.ref (ad.exc i)) = some true
  lim : NoLim K
  dts : ∀ a kvs, pr a kvs → KDt K w a kvs
section
variable {T : Tab} {ad : Ad} {P : Prog} {pr : Addr → List (Str × Str) → Prop} {w : World} {K : PySem.W.Frag} {mg : Str → Option Value} {prog : Program} {base : Heap}
/-- the reckoning's parts at a depth -/
noncomputable def cfgN (P : Prog) (M k : Nat) : Cfg := ⟨M, fun g => P.glbs.getD g .non, callN P M k, fun _ _ _ => .bad⟩
theorem callN_succ (M k i : Nat) (xs : List D) (S : Sto) : callN P M (k + 1) i xs S = match P.defs[i]? with
    | some d => runDef (cfgN P M k) d xs S
    | none => .bad := rfl
theorem start_sig {N : List Str} {d : Def} {ρ : List Addr} {H : Hp} {ds : List D} {vs : List V} {kf : KF} (r : Reps kf ρ H ds vs) (hl : ds.length = d.np) (hn : N.length = d.ns) : Sig kf ρ H (startE d ds) (L2.start N vs) := by
  have hv := Reps.len r
  refine ⟨?_, fun i d' h => ?_⟩
  · unfold startE L2.start
    rw [List.length_append, List.length_append, List.length_map, List.length_map, List.length_replicate, List.length_replicate]
    omega
  · unfold startE at h
    by_cases hi : i < ds.length
    · rw [List.getElem?_append_left (by rw [List.length_map]; exact hi), List.getElem?_map, Option.map_eq_some_iff] at h
      obtain ⟨d2, h1, h2⟩ := h
      cases h2
      obtain ⟨v, g, rv⟩ := Reps.get r h1
      refine ⟨v, ?_, rv⟩
      unfold L2.start
      rw [List.getElem?_append_left (by rw [List.length_map, hv]; exact hi), List.getElem?_map, g]; rfl
    · rw [List.getElem?_append_right (by rw [List.length_map]; omega), List.getElem?_replicate] at h
      split at h <;> cases h
theorem outS_fin {kf : KF} {ρ : List Addr} {S : Sto} {H : Hp} {r : RS} {Q : VK} {E : XK} (hS : ρ.length = S.length)
    (h : Out kf ad.cls (gcR S.length (finS r)) ρ H (fun d _ ρ' H' => ∀ v, Rep kf ρ' H' d v → Q v H') (ExX ad kf E)) :
    OutS ad kf r ρ H { nx := fun _ J => Q .non J, rt := Q } (fun c d _ J => E c d J) := by
  have h := Out.gc (Q := fun d ρ' H' => ∀ v, Rep kf ρ' H' d v → Q v H') (XX := fun c m ρ' H' => ∀ t v, H' t = some (.tup [v]) → Rep kf ρ' H' m v → E (.ref (ad.exc c)) (some t) H') hS
    (fun d n ρ' H' hi q v rv => q v (Rep.cut hi rv)) (fun c d n ρ' H' hi q t v ht rv => q t v ht (Rep.cut hi rv)) h
  cases r with
  | bad => exact h
  | exc c m env S2 => exact fun ρ' H' σ x s _ => h ρ' H' x s
  | ok f env S2 =>
    cases f with
    | nx => exact fun ρ' H' x s σ _ => h ρ' H' x s _ rep_non
    | rt d => exact fun ρ' H' x s v rv => h ρ' H' x s v rv
    | bk => exact False.elim h
    | ct => exact False.elim h
theorem fns_all (F : Fx0 T ad P pr w K mg) (M : Nat) : ∀ (k i : Nat) (x : Str), T.fns[i]? = some x → ∀ d N ps, P.defs[i]? = some d → DefFx T ad K i d N ps →
    MG.FnG prog w K mg base (MX.CXQ prog w) k (ad.fn i) (ad.fd i) ps (specF ad K pr (callN P M k i))
  | 0, i, x, hx, d, N, ps, hd, df => ⟨fun vs H Q E ⟨ex, ρ, S, ds, sr, rp, o⟩ => False.elim o, fun A outer s H args us vs Q E _ _ _ _ _ ⟨ex, ρ, S, ds, sr, rp, o⟩ => False.elim o⟩
  | k + 1, i, x, hx, d, N, ps, hd, df => by
    obtain ⟨name, qual, params, body, scope, dV, kV, doc, pm, cdv, ct, oc, an, od, osl, lk, hfd, hcd, fs, hch⟩ := df.at_
    have un : ∀ {vs : List V} {H : Hp} {Q : VK} {E : XK}, specF ad K pr (callN P M (k + 1) i) vs H Q E → ∃ ex ρ S ds, SR ⟨K, ⟨pr, ex⟩⟩ ad.cls ρ S H ∧ Reps ⟨K, ⟨pr, ex⟩⟩ ρ H ds vs ∧ ds.length = d.np ∧
        Out ⟨K, ⟨pr, ex⟩⟩ ad.cls (gcR S.length (finS (evSs (cfgN P M k) d.body (startE d ds) S))) ρ H (fun d _ ρ' H' => ∀ v, Rep ⟨K, ⟨pr, ex⟩⟩ ρ' H' d v → Q v H') (ExX ad ⟨K, ⟨pr, ex⟩⟩ E) := by
      intro vs H Q E ⟨ex, ρ, S, ds, sr, rp, o⟩
      rw [callN_succ, hd] at o
      dsimp only at o
      unfold runDef at o
      split at o
      · exact ⟨ex, ρ, S, ds, sr, rp, by assumption, o⟩
      · exact False.elim o
    rw [hfd]
    refine MG.fn_ofG lk hcd fs (fun vs H Q E sp => ?_) fun A outer s H vs Q E hr hg sp => ?_
    · obtain ⟨ex, ρ, S, ds, sr, rp, hl, o⟩ := un sp
      rw [Reps.len rp, hl, df.np]
    · obtain ⟨ex, ρ, S, ds, sr, rp, hl, o⟩ := un sp
      refine ⟨tSs ad ⟨K, ⟨pr, ex⟩⟩ (cfgN P M k) (fun c d _ J => E c d J) d.body, ?_, ρ, S, startE d ds, sr, start_sig rp hl df.ns, outS_fin sr.len o⟩
      refine ss_all T N ad (cfgN P M k) pr k d.body ex (X := cxOf (MX.CXQ prog w) prog w K mg base N qual scope (ad.fn i) cdv A outer s H E) ⟨⟨rfl, fs.nd, rfl, hr, hg, ?_, ⟨_, _, rfl, rfl⟩, ⟨_, rfl⟩, ?_⟩, ?_, rfl, rfl, fun _ => rfl⟩ rfl hch
      · exact MX.takes_def rfl rfl rfl rfl
      · refine ⟨F.blt, fun j y hy => ?_, F.gls, F.exs, F.lim, F.dts⟩
        obtain ⟨h1, h2, d2, N2, ps2, h3, df2⟩ := F.fns j y hy
        exact ⟨h1, h2, ps2, df2.bind, fns_all F M k j y hy d2 N2 ps2 h3 df2⟩
      · exact passes_of (K := fun e s'' => MX.CXQ prog w outer H s E e s'') (E₁ := fun e s'' => MX.CXQ prog w outer H s E e s'') rfl
end
end MP

set_option linter.all false
set_option maxRecDepth 100000
set_option maxHeartbeats 4000000
/-! MiniPy, 25: the law's own call. -/
namespace MP
open PySem PySem.Spec PyProof.Rows L2
section
variable {P : Program} {w : World} {K : PySem.W.Frag} {mg mb : Str → Option Value} {CX : CXT} {k : Nat} {fa a : Addr} {fd : FuncData} {x : Str} {sp : Sp} {s1 : Shared} {us : List Value} {ns : List Int}
/-- what is asked of the end -/
def LawEnd (s1 : Shared) (r : Result) (z : Shared) : Prop := r = .ok (.ret (.bool true)) ∧ OldK s1.heap z.heap ∧ z.os = s1.os ∧ AllBare z.gens
/-- from an abstract heap that tracks nothing but the script -/
theorem lawG_core (KX : K.In s1.heap) (hns : s1.heap.Ns mainGlobals mg) (hb : s1.heap.Ns builtinsNs mb) (hbb : ∀ y : Str, y ≠ "__name__" → mb y = bootBuiltins y) (hlim : s1.heap.NoLimit) (hg : s1.gens = #[])
    (ha : s1.heap.get? a = some { cls := .type "list", data := .seq us.toArray }) (hr : Room k callerA)
    (F : ∀ base : Heap, K.In base → base.Ns mainGlobals mg → MG.FnG P w K mg base CX k fa fd [x] sp) (hbind : BindsTo s1 fd ⟨[.ref a], []⟩ [(x, .ref a)])
    (hCX : ∀ H e z, CX [] H s1 (fun _ _ _ => False) e z → False)
    (H : Hp) (hO : Only H) (hsp : sp [.ref a] H (fun v _ => v = .bl true) fun _ _ _ => False) (hok : HOk P w H s1.heap) (hA : ∀ b, H b ≠ none → b = a) (hK : H a ≠ none → K.lookup a = none) :
    codeAny (model P w) callerA (.call (.ref fa) ⟨[.ref a], []⟩) (LawEnd s1) s1 := by
  have tr : ∀ {b : Addr} {u : L2.HO}, H b = some u → b = a := fun {b u} q => hA b (by rw [q]; simp)
  have put : ∀ {b : Addr} {o : Obj}, s1.heap.get? b = some o → (∀ u, H b = some u → False) → (hidT s1.heap H).get? b = some o := fun {b o} e n => by
    refine hidT_get e ?_
    cases q : H b with
    | none => rfl
    | some u => exact (n u q).elim
  have dic : ∀ {b : Addr} {m : Str → Option Value}, s1.heap.Ns b m → (hidT s1.heap H).Ns b m := by
    rintro b m ⟨o, es, ep, e, d, r⟩
    refine ⟨o, es, ep, put e fun u q => ?_, d, r⟩
    rw [tr q, ha] at e
    cases e
    have z : Data.seq us.toArray _ = Data.dict es ep := d
    cases z
  have kin : K.In (hidT s1.heap H) := fun b o e => put (KX b o e) fun u q => by
    have eq := tr q
    subst eq
    rw [hK (by rw [q]; simp)] at e
    cases e
  have md : Mod K mg (hidT s1.heap H) := by
    obtain ⟨mc, c1, c2⟩ := hlim
    exact ⟨kin, dic hns, ⟨mb, dic hb, hbb⟩, mc, dic c1, c2⟩
  have e0 : Env0 P w K mg (hidT s1.heap H) callerA [] s1 H :=
    ⟨rfl, md, fun b o e => of_hidT e, Nat.le_of_eq (hidT_size _ _), trivial, fun b hb => absurd (show b ∈ ([] : List Addr) from hb) (by simp), hok, .of_eq hg⟩
  have run := (F _ kin (dic hns)).run callerA [] s1 H ⟨[.ref a], []⟩ [.ref a] [.ref a] _ _ hr rfl e0 hbind (.cons rfl .nil) hsp
  refine codeAny_mono run fun r z h => ?_
  match r, h with
  | .error e, h => exact (hCX H e z h).elim
  | .ok .next, h => exact False.elim h
  | .ok .brk, h => exact False.elim h
  | .ok .cont, h => exact False.elim h
  | .ok (.ret u), h =>
    obtain ⟨v, J, os, bare, un, hok2, rel, q⟩ := h
    have q : v = .bl true := q
    subst q
    obtain rfl : u = Value.bool true := rel
    refine ⟨rfl, OldK.of_keep fun b o e => ?_, os, bare⟩
    cases q : H b with
    | none => exact un.keep b o e q (by intro m; cases m) (by simp)
    | some u =>
      rcases hO b with z | ⟨ob, xs, z⟩
      · rw [q] at z; cases z
      · have z2 := un.frzs b ob _ z
        obtain ⟨g1, _⟩ := hok b _ z
        obtain ⟨g2, _⟩ := hok2 b _ z2
        rw [e] at g1
        cases g1
        exact g2
theorem lawG (KX : K.In s1.heap) (hns : s1.heap.Ns mainGlobals mg) (hb : s1.heap.Ns builtinsNs mb) (hbb : ∀ y : Str, y ≠ "__name__" → mb y = bootBuiltins y) (hlim : s1.heap.NoLimit) (hg : s1.gens = #[])
    (ha : s1.heap.get? a = some { cls := .type "list", data := .seq us.toArray }) (hi : IntsAre us ns) (hl : ns.length ≤ sizeLine) (hr : Room k callerA)
    (F : ∀ base : Heap, K.In base → base.Ns mainGlobals mg → MG.FnG P w K mg base CX k fa fd [x] sp) (hbind : BindsTo s1 fd ⟨[.ref a], []⟩ [(x, .ref a)])
    (hsp : ∀ H : Hp, Only H → SqL K H a (ns.map V.int) → sp [.ref a] H (fun v _ => v = .bl true) fun _ _ _ => False)
    (hCX : ∀ H e z, CX [] H s1 (fun _ _ _ => False) e z → False) :
    codeAny (model P w) callerA (.call (.ref fa) ⟨[.ref a], []⟩) (LawEnd s1) s1 := by
  have rv := vals_ints hi
  have hlen := hi.length
  have go := fun H hO hS => lawG_core KX hns hb hbb hlim hg ha hr F hbind hCX H hO (hsp H hO hS)
  cases hk : K.lookup a with
  | some o =>
    have e := KX a o hk
    rw [ha] at e
    cases e
    refine go (fun _ => none) (fun _ => .inl rfl) (.inr ⟨_, us.toArray, _, hk, rfl, rfl, rfl, by rw [List.size_toArray, hlen]; exact hl, by simpa using rv⟩) (fun b u z => ?_) (fun b z => absurd rfl z) fun z => absurd rfl z
    cases (show (none : Option L2.HO) = some u from z)
  | none =>
    obtain ⟨ob, hob⟩ : ∃ ob : Obj, ob = { cls := .type "list", data := .seq us.toArray } := ⟨_, rfl⟩
    have me : (fun b => if b = a then some (L2.HO.frz ob (.lst (ns.map V.int))) else none : Hp) a = some (.frz ob (.lst (ns.map V.int))) := if_pos rfl
    refine go (fun b => if b = a then some (.frz ob (.lst (ns.map V.int))) else none) (fun b => ?_) (.inl (.inr ⟨ob, me⟩)) (fun b u z => ?_) (fun b z => ?_) fun _ => hk
    · by_cases q : b = a
      · exact .inr ⟨ob, _, if_pos q⟩
      · exact .inl (if_neg q)
    · by_cases q : b = a
      · subst q
        have z2 := me.symm.trans z
        cases z2
        subst hob
        exact ⟨ha, by rw [List.length_map]; exact hl, us, _, rv, ha⟩
      · have z2 := (if_neg q).symm.trans z
        cases z2
    · by_cases q : b = a
      · exact q
      · exact absurd (if_neg q) z
end
theorem cxq_no {P : Program} {w : World} {H : Hp} {s z : Shared} {e : Value} (h : MX.CXQ P w [] H s (fun _ _ _ => False) e z) : False := by
  obtain ⟨_, _, _, _, _, _, _, _, _, _, _, _, q⟩ := h
  exact q
end MP

set_option linter.all false
set_option maxRecDepth 100000
set_option maxHeartbeats 4000000
/-! MiniPy, 26: the facts of a text. -/
namespace MP
open PySem PySem.Spec PyProof.Rows L2

/-- a def of the text: its name, its statement, the small one, the slots' names, the parameters -/
structure Ent where
  x : Str
  st : Stmt
  d : Def
  N : List Str
  ps : List Str
/-- a constant of the text -/
inductive Cst where
  | int (x : Str) (i : Int) | str (x z : Str) | dct (x : Str) (kvs : List (Str × Str))
def Cst.nm : Cst → Str
  | .int x _ => x | .str x _ => x | .dct x _ => x
def Cst.val : Cst → D
  | .int _ i => .int i | .str _ z => .str z | .dct _ kvs => .dct kvs
def Cst.fa : Cst → He.Fa
  | .int x i => .int x i | .str x z => .str x z | .dct x _ => .glo x
structure Txt where
  ents : List Ent
  csts : List Cst
  exs : List Str
namespace Txt
def tab (t : Txt) : Tab := ⟨t.ents.map (·.x), t.csts.map Cst.nm, t.exs, []⟩
def prog (t : Txt) : Prog := ⟨t.ents.map (·.d), t.csts.map Cst.val⟩
def fa (t : Txt) : List He.Fa := (t.ents.map fun e => .glo e.x) ++ ((bltL.map .free) ++ ((t.csts.map Cst.fa) ++ ((t.exs.map .glo) ++ ((t.exs.map .exc) ++ (t.exs.map fun x => .exm x x true)))))
def fn (t : Txt) : List He.DefD := t.ents.map fun e => ⟨(e.x, none), e.x, e.x, defArgs e.st, defBody e.st, defScope e.st, [], []⟩
def tbs : List Cst → List (Str × List (Str × Str))
  | [] => []
  | .dct x kvs :: r => (x, kvs) :: tbs r
  | _ :: r => tbs r
def ts (t : Txt) : List He.Tab := (tbs t.csts).map fun q => (fun K => He.ga K q.1, q.2.map (·.1))
end Txt
/-- the texts of a written dict -/
def esB : List DictEntry → List (Str × Str) → Bool
  | [], [] => true
  | e :: es, p :: ps => (match e.key with | .str x _ => x == p.1 | _ => false) && (match e.val with | .str x _ => x == p.2 | _ => false) && esB es ps
  | _, _ => false
theorem esB_ok : ∀ {es : List DictEntry} {ps : List (Str × Str)}, esB es ps = true → EsOk es ps
  | [], [], _ => trivial
  | e :: es, p :: ps, h => by
    unfold esB at h
    rw [Bool.and_eq_true, Bool.and_eq_true] at h
    obtain ⟨⟨h1, h2⟩, h3⟩ := h
    refine ⟨?_, ?_, esB_ok h3⟩
    · split at h1
      · rename_i x t q
        rw [beq_iff_eq] at h1
        exact ⟨t, by rw [q, h1]⟩
      · cases h1
    · split at h2
      · rename_i x t q
        rw [beq_iff_eq] at h2
        exact ⟨t, by rw [q, h2]⟩
      · cases h2
  | [], _ :: _, h => by cases h
  | _ :: _, [], h => by cases h
def exB (t : Txt) (K : PySem.W.Frag) : Bool := He.eqO (PySem.W.nsIn K cStatics "sys.int_max_str_digits") (some none) && (Txt.tbs t.csts).all fun q => match K.lookup (He.ga K q.1) with
  | some ⟨_, _, .dict es _, _⟩ => esB es.toList q.2
  | _ => false
/-! ### the Hook -/
def frM (g : Addr → Option Obj) (n : Nat) : PySem.W.Frag := He.frG g (cStatics :: He.asD g n)
abbrev AlM : Type := He.AlT × Bool
def obsM (n : Nat) (t : Txt) (g : Addr → Option Obj) : AlM := (He.obsT t.fa t.fn t.ts (frM g n), exB t (frM g n))
def hookM (n : Nat) (t : Txt) : PySem.W.Hook where
  α := AlM
  obs := fun s => obsM n t s.heap.get?
  val := fun w => (He.valT t.fn t.ts w, true)
  says := fun w h => ∃ K : PySem.W.Frag, K.In h ∧ He.SaysT t.fa t.fn t.ts w K ∧ exB t K = true
  of := fun _ _ e => ⟨_, He.frG_in, congrArg Prod.fst e, congrArg Prod.snd e⟩
  keeps := fun _ _ _ ⟨K, hK, c⟩ k => ⟨K, PySem.W.Frag.In.keeps hK k, c⟩
theorem obsM_eq {n : Nat} {t : Txt} {g : Addr → Option Obj} {s : Shared} (h : ∀ a, g a = s.heap.get? a) : obsM n t g = (hookM n t).obs s := by
  have e : g = s.heap.get? := funext h
  rw [e] <;> rfl
/-! ### from the facts to what the walk asks -/
def fnScB (N ps : List Str) (sc : Scope) : Bool :=
  decide (sc.kind = .function) && !sc.isCoroutine && !sc.isGenerator && decide N.Nodup && decide (N.take ps.length = ps) && (ps.all fun x => isB sc x .local || isB sc x .cell) && sc.names.all fun y => decide (y.2 ≠ .free)
theorem fnSc_of {N ps : List Str} {sc : Scope} (h : fnScB N ps sc = true) : FnScope N ps sc := by
  unfold fnScB at h
  simp only [Bool.and_eq_true, decide_eq_true_eq, Bool.not_eq_true', List.all_eq_true, Bool.or_eq_true] at h
  obtain ⟨⟨⟨⟨⟨⟨h1, h2⟩, h3⟩, h4⟩, h5⟩, h6⟩, h7⟩ := h
  exact ⟨h1, h2, h3, h4, h5, fun x hx => (h6 x hx).imp isB_of isB_of, fun y hy => h7 y hy⟩
def Ent.ok (T : Tab) (e : Ent) : Bool := fnScB e.N e.ps (defScope e.st) && chSs T e.N (defScope e.st) e.d.body (defBody e.st) && decide (e.ps.length = e.d.np) && decide (e.N.length = e.d.ns)
/-- its parameters are bound as they stand -/
def Ent.bd (e : Ent) : Prop := ∀ (kV doc pm : Value) (an : Option Addr) (cdv ct : Value) (us : List Value), us.length = e.ps.length → bindArgs (PySem.W.fnOf e.x e.x (defArgs e.st) (defBody e.st) (defScope e.st) .none kV doc pm an cdv ct) ⟨us, []⟩ = pure (e.ps.zip us)
def fdAt (K : PySem.W.Frag) (f : Addr) : FuncData := match K.lookup f with
  | some ⟨_, _, .func fd, _⟩ => fd
  | _ => PySem.W.fnOf "" "" ⟨[], [], none, [], [], none, []⟩ [] ⟨.function, [], false, false, []⟩ .none .none .none .none none .none .none
def adK (t : Txt) (K : PySem.W.Frag) : Ad := ⟨fun _ => 0, fun i => He.ga K (t.exs.getD i ""), fun i => He.ga K ((t.ents.map (·.x)).getD i ""), fun i => fdAt K (He.ga K ((t.ents.map (·.x)).getD i ""))⟩
section
variable {t : Txt} {w : World} {K : PySem.W.Frag} {h : Heap} {mg : Str → Option Value}
theorem getD_of {l : List Str} {i : Nat} {x : Str} (e : l[i]? = some x) : l.getD i "" = x := by rw [List.getD_eq_getElem?_getD, e]; rfl
theorem fact_of (c : He.SaysT t.fa t.fn t.ts w K) {f : He.Fa} (m : f ∈ t.fa) : f.ok K = true := by
  obtain ⟨i, hi, e⟩ := List.mem_iff_getElem.mp m
  exact c.d.fact i (by rw [List.getElem?_eq_getElem hi, e])
theorem tbs_mem : ∀ {l : List Cst} {x : Str} {kvs : List (Str × Str)}, Cst.dct x kvs ∈ l → (x, kvs) ∈ Txt.tbs l
  | c :: l, x, kvs, m => by
    rcases List.mem_cons.mp m with m | m
    · subst m; exact List.mem_cons_self
    · have := tbs_mem m
      cases c
      · exact this
      · exact this
      · exact List.mem_cons_of_mem _ this
theorem fx0_of (c : He.SaysT t.fa t.fn t.ts w K) (ex : exB t K = true) (X : K.In h) (G : h.Ns mainGlobals mg) (hok : ∀ e ∈ t.ents, e.ok t.tab = true) (hbd : ∀ e ∈ t.ents, e.bd) : Fx0 t.tab (adK t K) t.prog (KDt K w) w K mg := by
  unfold exB at ex
  rw [Bool.and_eq_true, List.all_eq_true] at ex
  obtain ⟨ex1, ex2⟩ := ex
  have m1 : ∀ {f : He.Fa}, f ∈ (t.ents.map fun e => He.Fa.glo e.x) → f.ok K = true := fun m => fact_of c (List.mem_append_left _ m)
  have m2 : ∀ {f : He.Fa}, f ∈ bltL.map He.Fa.free → f.ok K = true := fun m => fact_of c (List.mem_append_right _ (List.mem_append_left _ m))
  have m3 : ∀ {f : He.Fa}, f ∈ t.csts.map Cst.fa → f.ok K = true := fun m => fact_of c (List.mem_append_right _ (List.mem_append_right _ (List.mem_append_left _ m)))
  have m4 : ∀ {f : He.Fa}, f ∈ t.exs.map He.Fa.glo → f.ok K = true := fun m => fact_of c (List.mem_append_right _ (List.mem_append_right _ (List.mem_append_right _ (List.mem_append_left _ m))))
  have m5 : ∀ {f : He.Fa}, f ∈ t.exs.map He.Fa.exc → f.ok K = true := fun m => fact_of c (List.mem_append_right _ (List.mem_append_right _ (List.mem_append_right _ (List.mem_append_right _ (List.mem_append_left _ m)))))
  have m6 : ∀ {f : He.Fa}, f ∈ (t.exs.map fun x => He.Fa.exm x x true) → f.ok K = true := fun m => fact_of c (List.mem_append_right _ (List.mem_append_right _ (List.mem_append_right _ (List.mem_append_right _ (List.mem_append_right _ m)))))
  refine ⟨fun x hx => He.free_ok X G (m2 (List.mem_map_of_mem hx)), fun i x hx => ?_, fun g x hx => ?_, fun i x hx => ?_, He.eqO_ok ex1, fun a kvs q => q⟩
  · have e1 : (adK t K).fn i = He.ga K x := congrArg (He.ga K) (getD_of (l := t.ents.map (·.x)) hx)
    have hx' : (t.ents.map (·.x))[i]? = some x := hx
    rw [List.getElem?_map, Option.map_eq_some_iff] at hx'
    obtain ⟨e, he, rfl⟩ := hx'
    have me := List.mem_of_getElem? he
    obtain ⟨fd, F⟩ := c.d.def_ i (d := ⟨(e.x, none), e.x, e.x, defArgs e.st, defBody e.st, defScope e.st, [], []⟩) (by show (t.ents.map _)[i]? = _; rw [List.getElem?_map, he]; rfl)
    have hfd : (adK t K).fd i = fd := by
      show fdAt K ((adK t K).fn i) = _
      rw [e1]
      obtain ⟨oc, od, dV, kV, doc, pm, an, cdv, ct, osl, rfl, lk, _⟩ := F.ex
      have lk : K.lookup (He.ga K e.x) = _ := lk
      unfold fdAt
      rw [lk]
    rw [e1]
    refine ⟨He.glo_ok X G (m1 (List.mem_map_of_mem (f := fun e => He.Fa.glo e.x) me)), F.kp, e.d, e.N, e.ps, by show (t.ents.map _)[i]? = _; rw [List.getElem?_map, he]; rfl, ?_⟩
    have ok := hok e me
    unfold Ent.ok at ok
    simp only [Bool.and_eq_true, decide_eq_true_eq] at ok
    obtain ⟨⟨⟨o1, o2⟩, o3⟩, o4⟩ := ok
    have bb : Binds K fd e.ps [] := F.bindsN (hbd e me)
    obtain ⟨oc, od, dV, kV, doc, pm, an, cdv, ct, osl, rfl, lk, hcd, _⟩ := F.ex
    exact ⟨⟨_, _, _, _, _, _, _, _, _, _, _, _, _, _, _, by rw [e1]; exact lk, hfd, hcd, fnSc_of o1, o2⟩, o3, o4, by rw [hfd]; exact bb⟩
  · have hx' : (t.csts.map Cst.nm)[g]? = some x := hx
    rw [List.getElem?_map, Option.map_eq_some_iff] at hx'
    obtain ⟨k, hk, rfl⟩ := hx'
    have mk := List.mem_of_getElem? hk
    have hv : t.prog.glbs.getD g .non = k.val := by
      show (t.csts.map Cst.val).getD g .non = _
      rw [List.getD_eq_getElem?_getD, List.getElem?_map, hk]; rfl
    rw [hv]
    have fk := m3 (List.mem_map_of_mem (f := Cst.fa) mk)
    cases k with
    | int x i =>
      obtain ⟨tk, e⟩ := He.int_ok X G fk
      exact ⟨_, .int i, e, ⟨tk, rfl⟩, fun _ _ _ => rep_int⟩
    | str x z =>
      obtain ⟨tk, e⟩ := He.str_ok X G fk
      exact ⟨_, .str z, e, ⟨tk, rfl⟩, fun _ _ _ => rep_str⟩
    | dct x kvs =>
      refine ⟨_, .ref (He.ga K x), He.glo_ok X G fk, rfl, fun ex ρ H => ?_⟩
      have mt := tbs_mem mk
      obtain ⟨j, hj, ej⟩ := List.mem_iff_getElem.mp mt
      obtain ⟨es, n, D⟩ := c.tab j (t := (fun K => He.ga K x, kvs.map (·.1))) (by show ((Txt.tbs t.csts).map _)[j]? = _; rw [List.getElem?_map, List.getElem?_eq_getElem hj, ej]; rfl)
      have q := ex2 _ mt
      have D' : KDict K w (He.ga K x) es n := D
      rw [D'.at_] at q
      unfold Cst.val Rep
      exact ⟨_, rfl, .inr ⟨es, n, D', esB_ok q⟩⟩
  · have e1 : (adK t K).exc i = He.ga K x := congrArg (He.ga K) (getD_of (l := t.exs) hx)
    have mx := List.mem_of_getElem? (show t.exs[i]? = some x from hx)
    rw [e1]
    obtain ⟨q1, q2, q3, q4⟩ := He.exc_ok (m5 (List.mem_map_of_mem mx))
    exact ⟨He.glo_ok X G (m4 (List.mem_map_of_mem mx)), q2, ⟨_, _, _, _, F.excBase_ValueError, q1⟩, q3, q4, He.exm_ok (m6 (List.mem_map_of_mem (f := fun x => He.Fa.exm x x true) mx))⟩
end
end MP

set_option linter.all false
set_option maxRecDepth 100000
set_option maxHeartbeats 4000000
/-! MiniPy, 27: the end. -/
namespace MP
open PySem PySem.Spec PyProof.Rows L2
/-- what a law comes to, in plain Lean -/
def LawSays (P : Prog) (M k li n : Nat) : Prop := ∀ ns : List Int, ns.length ≤ n → (∀ i ∈ ns, Builtin.Int.intBits i ≤ 1048576) → ∃ S, callN P M k li [.scr ns] [] = .ok (.bl true) S
theorem walkM {l : PySem.W.OpenLaw} {n k m M li : Nat} {q : Program} {loose : List Str} {XP : (Str → Option Value) → Heap → Prop} {d : DefRec} (t : Txt)
    (hn : l.most = some n) (hn2 : n ≤ sizeLine) (hdf : d.params.defaults = []) (hr : Room k callerA) (hok : ∀ e ∈ t.ents, e.ok t.tab = true) (hbd : ∀ e ∈ t.ents, e.bd)
    (x : Str) (hli : ∃ e, t.ents[li]? = some e ∧ e.x = d.name ∧ e.ps = [x]) (hlaw : LawSays t.prog M k li n) :
    PySem.W.WalkO q loose XP (hookM m t).says l.row.toRowW d [] (fun f vs => PySem.call f vs) := by
  refine Att.attach_callB hn hdf fun w s0 s1 mg mb fa o pm cd doc a us ns G Y ho hd hcd hmg hobj hints hlen hbits hg => ?_
  obtain ⟨K, KX, c, ex⟩ := Y
  have FX := fx0_of c ex KX G.T.g hok hbd
  obtain ⟨e, he, hx, hps⟩ := hli
  have hfn : t.tab.fns[li]? = some d.name := by show (t.ents.map (·.x))[li]? = _; rw [List.getElem?_map, he, ← hx]; rfl
  obtain ⟨g1, g2, dd, N, ps, hdd, df⟩ := FX.fns li d.name hfn
  rw [hmg] at g1
  have efa : fa = (adK t K).fn li := by cases g1; rfl
  have hps' : ps.length = 1 := by
    have e1 : t.prog.defs[li]? = some e.d := by show (t.ents.map (·.d))[li]? = _; rw [List.getElem?_map, he]; rfl
    rw [e1] at hdd
    cases hdd
    have ok := hok e (List.mem_of_getElem? he)
    unfold Ent.ok at ok
    simp only [Bool.and_eq_true, decide_eq_true_eq] at ok
    rw [df.np, ← ok.1.2, hps]; rfl
  obtain ⟨y, rfl⟩ : ∃ y, ps = [y] := by
    match ps, hps' with
    | [y], _ => exact ⟨y, rfl⟩
  have bind := df.bind s1 [.ref a] KX rfl
  subst efa
  refine lawG (CX := MX.CXQ l.prog w) (k := k) (sp := specF (adK t K) K (KDt K w) (callN t.prog M k li)) (fd := (adK t K).fd li) (x := y) KX G.T.g G.T.b G.T.builtins G.T.nolimit hg hobj hints (Nat.le_trans hlen hn2) hr
    (fun base _ _ => fns_all FX M k li d.name hfn dd N [y] hdd df) bind (fun H hO hS => ?_) fun H e z h => cxq_no h
  obtain ⟨S, hS2⟩ := hlaw ns hlen hbits
  refine ⟨[], [], [], [.scr ns], ⟨rfl, List.nodup_nil, fun n ds a h => by simp at h, fun n c fs a h => by simp at h, fun a h => by cases h⟩, ?_, ?_⟩
  · refine reps_cons ?_ Reps.nil
    unfold Rep
    refine ⟨a, rfl, ?_⟩
    rcases hS with hS | hS
    · exact .inl ⟨hS, by simp, by simp⟩
    · exact .inr hS
  · rw [hS2]
    exact fun ρ' H' _ _ v rv => rep_bl_of' rv
end MP

set_option linter.all false
set_option maxRecDepth 100000
set_option maxHeartbeats 1000000
/-! MiniPy, plain laws 1: equations by name, loops. -/
namespace MP
open PySem
section
variable {c : Cfg} {env : MP.Env} {S : Sto}
theorem ev_var (i : Nat) : evE c (.var i) env S = match env[i]? with | some (some d) => .ok d S | _ => .bad := by rw [evE] <;> rfl
theorem ev_non : evE c .non env S = .ok .non S := by rw [evE] <;> rfl
theorem ev_bl (b : Bool) : evE c (.bl b) env S = .ok (.bl b) S := by rw [evE] <;> rfl
theorem ev_int (i : Int) : evE c (.int i) env S = .ok (.int i) S := by rw [evE] <;> rfl
theorem ev_str (x : Str) : evE c (.str x) env S = .ok (.str x) S := by rw [evE] <;> rfl
theorem ev_glb (g : Nat) : evE c (.glb g) env S = .ok (c.glb g) S := by rw [evE] <;> rfl
theorem ev_bin (o : BO) (a b : E) : evE c (.bin o a b) env S = (evE c a env S).bind fun x S1 => (evE c b env S1).bind fun y S2 => rOpt S2 (evBin o S2 x y) := by rw [evE] <;> rfl
theorem ev_neg (a : E) : evE c (.neg a) env S = (evE c a env S).bind fun x S1 => rOpt S1 (evNeg x) := by rw [evE] <;> rfl
theorem ev_no (a : E) : evE c (.no a) env S = (evE c a env S).bind fun x S1 => match x with | .bl b => .ok (.bl (!b)) S1 | _ => .bad := by rw [evE] <;> rfl
theorem ev_cmp (o : CO) (a b : E) : evE c (.cmp o a b) env S = (evE c a env S).bind fun x S1 => (evE c b env S1).bind fun y S2 => (rOpt S2 (evCmp o S2 x y)).bind fun k S3 => .ok (.bl k) S3 := by rw [evE] <;> rfl
theorem ev_chain (o p : CO) (a b d : E) : evE c (.chain o p a b d) env S = (evE c a env S).bind fun x S1 => (evE c b env S1).bind fun y S2 => (rOpt S2 (evCmp o S2 x y)).bind fun k S3 =>
      if k = true then (evE c d env S3).bind fun z S4 => (rOpt S4 (evCmp p S4 y z)).bind fun k S5 => .ok (.bl k) S5 else .ok (.bl false) S3 := by rw [evE] <;> rfl
theorem ev_isN (ng : Bool) (a : E) : evE c (.isN ng a) env S = (evE c a env S).bind fun x S1 => .ok (.bl (if isNon x then !ng else ng)) S1 := by
  rw [evE]
  congr 1
  funext x S1
  cases x <;> rfl
theorem ev_and (a b : E) : evE c (.and a b) env S = (evE c a env S).bind fun x S1 => match x with | .bl true => evE c b env S1 | .bl false => .ok (.bl false) S1 | _ => .bad := by rw [evE] <;> rfl
theorem ev_or (a b : E) : evE c (.or a b) env S = (evE c a env S).bind fun x S1 => match x with | .bl true => .ok (.bl true) S1 | .bl false => evE c b env S1 | _ => .bad := by rw [evE] <;> rfl
theorem ev_ife (d a b : E) : evE c (.ife d a b) env S = (evE c d env S).bind fun x S1 => match x with | .bl true => evE c a env S1 | .bl false => evE c b env S1 | _ => .bad := by rw [evE] <;> rfl
theorem ev_call (f : Nat) (as : Es) : evE c (.call f as) env S = (evEs c as env S).bind fun xs S1 => c.call f xs S1 := by rw [evE] <;> rfl
theorem ev_bi (f : Bi) (as : Es) : evE c (.bi f as) env S = (evEs c as env S).bind fun xs S1 => rOpt S1 (evBi f S1 xs) := by rw [evE] <;> rfl
theorem ev_isi (a : E) (t : Ty) : evE c (.isi a t) env S = (evE c a env S).bind fun x S1 => (rOpt S1 (isTy S1 x t)).bind fun k S2 => .ok (.bl k) S2 := by rw [evE] <;> rfl
theorem ev_me (m : Me) (o : E) (as : Es) : evE c (.me m o as) env S = (evE c o env S).bind fun x S1 => if isStrD x = true then (evEs c as env S1).bind fun xs S2 => rOpt S2 (evMe m S2 x xs) else .bad := by rw [evE] <;> rfl
theorem ev_repl (a : E) (i : Int) (y z : Str) : evE c (.repl a i y z) env S = (evE c a env S).bind fun x S1 => (rOpt S1 (evIdx S1 x (.int i))).bind fun d S2 => match d with
    | .str x => if x.length + (x.length + 1) * z.length ≤ 16777216 then .ok (.str (Txt.replace x y z)) S2 else .bad
    | _ => .bad := by rw [evE] <;> rfl
theorem ev_lm (m : Lm) (o : E) (as : Es) : evE c (.lm m o as) env S = (evE c o env S).bind fun x S1 => if isLocD S1 x = true then (evEs c as env S1).bind fun xs S2 => evLm m S2 x xs else .bad := by rw [evE] <;> rfl
theorem ev_idx (o i : E) : evE c (.idx o i) env S = (evE c o env S).bind fun x S1 => (evE c i env S1).bind fun y S2 => rOpt S2 (evIdx S2 x y) := by rw [evE] <;> rfl
theorem ev_slc (o : E) (lo hi : Eo) : evE c (.slc o lo hi) env S = (evE c o env S).bind fun x S1 => (evEo c lo env S1).bind fun l S2 => (evEo c hi env S2).bind fun h S3 => rOpt S3 (evSlc S3 x l h) := by rw [evE] <;> rfl
theorem ev_rev (o : E) : evE c (.rev o) env S = (evE c o env S).bind fun x S1 => rOpt S1 (evRev S1 x) := by rw [evE] <;> rfl
theorem ev_tup (as : Es) : evE c (.tup as) env S = (evEs c as env S).bind fun xs S1 => if xs.length ≤ sizeLine then .ok (.tup xs) S1 else .bad := by rw [evE] <;> rfl
theorem ev_lstF (as : Es) : evE c (.lst false as) env S = (evEs c as env S).bind fun xs S1 => if xs.length ≤ sizeLine then .ok (.lst xs) S1 else .bad := by rw [evE] <;> rfl
theorem ev_lstT (as : Es) : evE c (.lst true as) env S = (evEs c as env S).bind fun xs S1 => if xs.length ≤ sizeLine then .ok (.loc S1.length) (S1 ++ [.lst xs]) else .bad := by rw [evE] <;> rfl
theorem ev_dct (kvs : List (Str × Str)) : evE c (.dct kvs) env S = .ok (.dct kvs) S := by rw [evE] <;> rfl
theorem es_nil : evEs c .nil env S = .ok [] S := by rw [evEs] <;> rfl
theorem es_cons (a : E) (as : Es) : evEs c (.cons a as) env S = (evE c a env S).bind fun x S1 => (evEs c as env S1).bind fun xs S2 => .ok (x :: xs) S2 := by rw [evEs] <;> rfl
theorem eo_none : evEo c .none env S = .ok none S := by rw [evEo] <;> rfl
theorem eo_some (a : E) : evEo c (.some a) env S = (evE c a env S).bind fun x S1 => match x with | .int i => .ok (some i) S1 | _ => .bad := by rw [evEo] <;> rfl
/-- the statements, one by one -/
theorem ss_nil : evSs c .nil env S = .ok .nx env S := by rw [evSs] <;> rfl
theorem ss_cons (a : St) (as : Sts) : evSs c (.cons a as) env S = (evS c a env S).next fun env1 S1 => evSs c as env1 S1 := by rw [evSs] <;> rfl
theorem ss_go {a : St} {as : Sts} {env1 : MP.Env} {S1 : Sto} (h : evS c a env S = .ok .nx env1 S1) : evSs c (.cons a as) env S = evSs c as env1 S1 := by rw [ss_cons, h]; rfl
theorem ss_rt {a : St} {as : Sts} {d : D} {env1 : MP.Env} {S1 : Sto} (h : evS c a env S = .ok (.rt d) env1 S1) : evSs c (.cons a as) env S = .ok (.rt d) env1 S1 := by rw [ss_cons, h]; rfl
theorem ss_ex {a : St} {as : Sts} {j : Nat} {m : D} {env1 : MP.Env} {S1 : Sto} (h : evS c a env S = .exc j m env1 S1) : evSs c (.cons a as) env S = .exc j m env1 S1 := by rw [ss_cons, h]; rfl
theorem s_asg (t : Tg) (e : E) : evS c (.asg t e) env S = (evE c e env S).toS env fun x S1 => match bindTg t env x with | some env1 => .ok .nx env1 S1 | none => .bad := by rw [evS] <;> rfl
theorem s_asgc (i : Nat) (e : E) : evS c (.asgc i e) env S = (evE c e env S).toS env fun x S1 => .ok .nx (env.set i (some x)) S1 := by rw [evS] <;> rfl
theorem s_par2 (i j : Nat) (a b : E) : evS c (.par2 i j a b) env S = (evE c a env S).toS env fun x S1 => (evE c b env S1).toS env fun y S2 => .ok .nx ((env.set i (some x)).set j (some y)) S2 := by rw [evS] <;> rfl
theorem s_par3 (i j k : Nat) (a b d : E) : evS c (.par3 i j k a b d) env S = (evE c a env S).toS env fun x S1 => (evE c b env S1).toS env fun y S2 => (evE c d env S2).toS env fun z S3 => .ok .nx (((env.set i (some x)).set j (some y)).set k (some z)) S3 := by rw [evS] <;> rfl
theorem s_aug (i : Nat) (o : BO) (e : E) : evS c (.aug i o e) env S = match env[i]? with
    | some (some x) => (evE c e env S).toS env fun y S1 => match augR o x y with
      | some d => .ok .nx (env.set i (some d)) S1
      | none => .bad
    | _ => .bad := by rw [evS] <;> rfl
theorem s_sset (o i e : E) : evS c (.sset o i e) env S = (evE c e env S).toS env fun x S1 => (evE c o env S1).toS env fun y S2 => (evE c i env S2).toS env fun z S3 => match y, z with
    | .loc n, .int k => match S3[n]? with
      | some (.lst xs) => match L2.ixN xs.length k with
        | some j => .ok .nx env (S3.set n (.lst (xs.set j x)))
        | none => .bad
      | _ => .bad
    | _, _ => .bad := by rw [evS] <;> rfl
theorem s_xpr (e : E) : evS c (.xpr e) env S = (evE c e env S).toS env fun _ S1 => .ok .nx env S1 := by rw [evS] <;> rfl
theorem s_ifs (d : E) (a b : Sts) : evS c (.ifs d a b) env S = (evE c d env S).toS env fun x S1 => match x with | .bl true => evSs c a env S1 | .bl false => evSs c b env S1 | _ => .bad := by rw [evS] <;> rfl
theorem s_ret (e : E) : evS c (.ret e) env S = (evE c e env S).toS env fun x S1 => .ok (.rt x) env S1 := by rw [evS] <;> rfl
theorem s_raise (k : Nat) (e : E) : evS c (.raise k e) env S = (evE c e env S).toS env fun x S1 => .exc k x env S1 := by rw [evS] <;> rfl
theorem s_try (b : Sts) (k : Nat) (nm : Option Nat) (h : Sts) : evS c (.tryx b k nm h) env S = match evSs c b env S with
    | .exc j m env1 S1 => if j = k then evSs c h env1 S1 else .bad
    | r => r := by rw [evS] <;> rfl
theorem s_whl (d : E) (b : Sts) : evS c (.whl d b) env S = whlL (fun env S => evE c d env S) (fun env S => evSs c b env S) c.N env S := by rw [evS] <;> rfl
/-- a turn of a loop -/
noncomputable def fTurn (c : Cfg) (tg : Tg) (b : Sts) (d : D) (env : MP.Env) (S : Sto) : RS :=
  match bindTg tg env d with
  | some env1 => evSs c b env1 S
  | none => .bad
theorem fTurn_of {tg : Tg} {b : Sts} {d : D} {e1 : MP.Env} (h : bindTg tg env d = some e1) : fTurn c tg b d env S = evSs c b e1 S := by unfold fTurn; rw [h]
theorem s_for (tg : Tg) (it : It) (b : Sts) : evS c (.for_ tg it b) env S = (evIt c it env S).toS env fun w S1 => forL w (fTurn c tg b) w.items env S1 := by rw [evS] <;> rfl
theorem it_of (e : E) : evIt c (.of e) env S = (evE c e env S).bind fun x S1 => rOpt S1 (itOf S1 x) := by rw [evIt] <;> rfl
theorem it_rng1 (e : E) : evIt c (.rng1 e) env S = (evE c e env S).bind fun x S1 => rOpt S1 (rangeOf [x]) := by rw [evIt] <;> rfl
theorem eb_none : evEb c .none env S = .ok true S := by rw [evEb] <;> rfl
theorem eb_some (a : E) : evEb c (.some a) env S = (evE c a env S).bind fun x S1 => match x with | .bl b => .ok b S1 | _ => .bad := by rw [evEb] <;> rfl
theorem b_ok {α β : Type} (a : α) (S : Sto) (f : α → Sto → R β) : (R.ok a S).bind f = f a S := rfl
theorem b_exc {α β : Type} (k : Nat) (m : D) (S : Sto) (f : α → Sto → R β) : (R.exc k m S : R α).bind f = .exc k m S := rfl
theorem t_ok {α : Type} (a : α) (S : Sto) (f : α → Sto → RS) : (R.ok a S).toS env f = f a S := rfl
theorem t_exc {α : Type} (k : Nat) (m : D) (S : Sto) (f : α → Sto → RS) : (R.exc k m S : R α).toS env f = .exc k m env S := rfl
theorem r_some {α : Type} (a : α) (S : Sto) : rOpt S (some a) = .ok a S := rfl
/-! ### comprehensions whose turns leave the store -/
theorem ev_comp {mu : Bool} {elt : E} {tg : Tg} {it : It} {ifs : Eo} {own : List Nat} {w : Walkd} {ys : List D} (hi : evIt c it env S = .ok w S) (hz : w.items.length ≤ sizeLine) (hst : w.still S = true)
    (hc : compL w (cTurn c elt tg ifs (wipeE env own)) w.items S = .ok ys S) : evE c (.comp mu elt tg it ifs own) env S = (if mu then .ok (.loc S.length) (S ++ [.lst ys]) else .ok (.lst ys) S) := by
  rw [evE, hi]
  show (if w.items.length ≤ sizeLine then (compL w (cTurn c elt tg ifs (wipeE env own)) w.items S).bind _ else _) = _
  rw [if_pos hz, hc]
  show (if w.still S = true then _ else _) = _
  rw [if_pos hst]
theorem ev_comp_exc {mu : Bool} {elt : E} {tg : Tg} {it : It} {ifs : Eo} {own : List Nat} {w : Walkd} {k : Nat} {m : D} (hi : evIt c it env S = .ok w S) (hz : w.items.length ≤ sizeLine)
    (hc : compL w (cTurn c elt tg ifs (wipeE env own)) w.items S = .exc k m S) : evE c (.comp mu elt tg it ifs own) env S = .exc k m S := by
  rw [evE, hi]
  show (if w.items.length ≤ sizeLine then (compL w (cTurn c elt tg ifs (wipeE env own)) w.items S).bind _ else _) = _
  rw [if_pos hz, hc]
  rfl
/-- a turn with no condition -/
theorem turn_ok {elt : E} {tg : Tg} {e1 : MP.Env} {d x : D} (hb : bindTg tg env d = some e1) (he : evE c elt e1 S = .ok x S) : cTurn c elt tg .none env d S = .ok (some x) S := by
  unfold cTurn
  rw [hb]
  show (evEb c .none e1 S).bind _ = _
  rw [eb_none]
  show (evE c elt e1 S).bind _ = _
  rw [he]; rfl
theorem turn_exc {elt : E} {tg : Tg} {e1 : MP.Env} {d m : D} {k : Nat} (hb : bindTg tg env d = some e1) (he : evE c elt e1 S = .exc k m S) : cTurn c elt tg .none env d S = .exc k m S := by
  unfold cTurn
  rw [hb]
  show (evEb c .none e1 S).bind _ = _
  rw [eb_none]
  show (evE c elt e1 S).bind _ = _
  rw [he]; rfl
theorem compL_map {w : Walkd} {f : D → Sto → R (Option D)} {g : D → D} (hst : w.still S = true) : ∀ (ds : List D), (∀ d ∈ ds, f d S = .ok (some (g d)) S) → compL w f ds S = .ok (ds.map g) S
  | [], _ => by rw [compL]; rfl
  | d :: ds, h => by
    rw [compL, if_pos hst, h d List.mem_cons_self]
    show (compL w f ds S).bind _ = _
    rw [compL_map hst ds fun x hx => h x (List.mem_cons_of_mem _ hx)]
    rfl
theorem compL_filterMap {w : Walkd} {f : D → Sto → R (Option D)} {g : D → Option D} (hst : w.still S = true) : ∀ (ds : List D), (∀ d ∈ ds, f d S = .ok (g d) S) → compL w f ds S = .ok (ds.filterMap g) S
  | [], _ => by rw [compL]; rfl
  | d :: ds, h => by
    rw [compL, if_pos hst, h d List.mem_cons_self]
    show (compL w f ds S).bind _ = _
    rw [compL_filterMap hst ds fun x hx => h x (List.mem_cons_of_mem _ hx), List.filterMap_cons]
    cases g d <;> rfl
/-- .. or the first that raises -/
theorem compL_opt {w : Walkd} {f : D → Sto → R (Option D)} {g : D → Option D} {k : Nat} (hst : w.still S = true) : ∀ (ds : List D), (∀ d ∈ ds, (∃ y, g d = some y ∧ f d S = .ok (some y) S) ∨ (g d = none ∧ ∃ m, f d S = .exc k m S)) →
    (∃ ys, ds.mapM g = some ys ∧ compL w f ds S = .ok ys S) ∨ (ds.mapM g = none ∧ ∃ m, compL w f ds S = .exc k m S)
  | [], _ => .inl ⟨[], rfl, by rw [compL]⟩
  | d :: ds, h => by
    rw [compL, if_pos hst]
    rcases h d List.mem_cons_self with ⟨y, h1, h2⟩ | ⟨h1, m, h2⟩
    · rw [h2]
      rcases compL_opt hst ds fun x hx => h x (List.mem_cons_of_mem _ hx) with ⟨ys, h3, h4⟩ | ⟨h3, m, h4⟩
      · refine .inl ⟨y :: ys, by rw [List.mapM_cons, h1, h3]; rfl, ?_⟩
        show (compL w f ds S).bind _ = _
        rw [h4]; rfl
      · refine .inr ⟨by rw [List.mapM_cons, h1, h3]; rfl, m, ?_⟩
        show (compL w f ds S).bind _ = _
        rw [h4]; rfl
    · exact .inr ⟨by rw [List.mapM_cons, h1]; rfl, m, by rw [h2]; rfl⟩
end
theorem gcR_same (S : Sto) (d : D) : gcR S.length (.ok d S) = .ok d S := by
  unfold gcR
  dsimp only
  rw [List.take_length]
  split <;> rfl
theorem gcR_exc (S : Sto) (c : Nat) (d : D) : gcR S.length (.exc c d S) = .exc c d S := by
  unfold gcR
  dsimp only
  rw [List.take_length]
  split <;> rfl
section
variable {P : Prog} {M k : Nat} {S : Sto}
theorem call_run (M k i : Nat) (d : Def) (xs : List D) (S : Sto) (hd : P.defs[i]? = some d) (hl : xs.length = d.np) : callN P M (k + 1) i xs S = gcR S.length (finS (evSs (cfgN P M k) d.body (startE d xs) S)) := by
  rw [callN_succ, hd]
  dsimp only
  unfold runDef
  rw [if_pos hl]
/-- a def that returns, the store as it was -/
theorem call_ret {i : Nat} {d : Def} {xs : List D} {v : D} (hd : P.defs[i]? = some d) (hl : xs.length = d.np) (h : ∃ env, evSs (cfgN P M k) d.body (startE d xs) S = .ok (.rt v) env S) : callN P M (k + 1) i xs S = .ok v S := by
  obtain ⟨env, h⟩ := h
  rw [call_run M k i d xs S hd hl, h]
  exact gcR_same S v
theorem call_exc {i : Nat} {d : Def} {xs : List D} {c : Nat} {v : D} (hd : P.defs[i]? = some d) (hl : xs.length = d.np) (h : ∃ env, evSs (cfgN P M k) d.body (startE d xs) S = .exc c v env S) : callN P M (k + 1) i xs S = .exc c v S := by
  obtain ⟨env, h⟩ := h
  rw [call_run M k i d xs S hd hl, h]
  exact gcR_exc S c v
end
theorem cfg_call {P : Prog} {M k : Nat} : (cfgN P M k).call = callN P M k := rfl
theorem cfg_glb {P : Prog} {M k g : Nat} : (cfgN P M k).glb g = P.glbs.getD g .non := rfl
theorem cfg_N {P : Prog} {M k : Nat} : (cfgN P M k).N = M := rfl
/-! ### comparisons of plain data -/
theorem eqI (S : Sto) (i j : Int) : evEq S (.int i) (.int j) = some (decide (i = j)) := by
  show evEqD S (.int i) (.int j) = _
  unfold evEqD
  simp only [toPS, toP]
  rw [if_pos (by rfl)]
  congr 1
end MP

set_option linter.all false
set_option maxRecDepth 100000
set_option maxHeartbeats 1000000
/-! MiniPy, plain laws 2: comprehensions over sequences. -/
namespace MP
open PySem
section
variable {c : Cfg} {env : MP.Env} {S : Sto}
theorem asBls_map {g : D → Bool} : ∀ ds : List D, asBls (ds.map fun d => .bl (g d)) = some (ds.map g)
  | [] => rfl
  | d :: ds => by
    rw [List.map_cons, List.map_cons]
    unfold asBls
    rw [asBls_map ds]; rfl
/-- [elt for x in src], src a sequence of plain values -/
theorem comp_seq {src elt : E} {i : Nat} {own : List Nat} {w : Walkd} {v : D} {g : D → D} (hs : evE c src env S = .ok v S) (hi : itOf S v = some w) (hk : w.keep = none) (hz : w.items.length ≤ sizeLine)
    (h : ∀ d ∈ w.items, evE c elt ((wipeE env own).set i (some d)) S = .ok (g d) S) : evE c (.comp false elt (.nm i) (.of src) .none own) env S = .ok (.lst (w.items.map g)) S := by
  have hst : w.still S = true := by unfold Walkd.still; rw [hk]
  refine ev_comp (w := w) (by rw [it_of, hs]; show rOpt S (itOf S v) = _; rw [hi]; rfl) hz hst ?_
  exact compL_map hst w.items fun d hd => turn_ok rfl (h d hd)
theorem all_seq {src elt : E} {i : Nat} {own : List Nat} {w : Walkd} {v : D} {g : D → Bool} (hs : evE c src env S = .ok v S) (hi : itOf S v = some w) (hk : w.keep = none) (hz : w.items.length ≤ sizeLine)
    (h : ∀ d ∈ w.items, evE c elt ((wipeE env own).set i (some d)) S = .ok (.bl (g d)) S) : evE c (.bi .all (.cons (.comp false elt (.nm i) (.of src) .none own) .nil)) env S = .ok (.bl (w.items.all g)) S := by
  have e1 := comp_seq (g := fun d => .bl (g d)) hs hi hk hz h
  rw [ev_bi, es_cons, e1, b_ok, es_nil]
  show rOpt S (evBi .all S [.lst (w.items.map fun d => .bl (g d))]) = _
  unfold evBi
  dsimp only
  unfold asL
  simp only [Option.bind_some]
  rw [asBls_map]
  show rOpt S (some (D.bl ((w.items.map g).all id))) = _
  rw [List.all_map]
  rfl
theorem all_tup {src elt : E} {i : Nat} {own : List Nat} {ds : List D} {g : D → Bool} (hs : evE c src env S = .ok (.tup ds) S) (hz : ds.length ≤ sizeLine)
    (h : ∀ d ∈ ds, evE c elt ((wipeE env own).set i (some d)) S = .ok (.bl (g d)) S) : evE c (.bi .all (.cons (.comp false elt (.nm i) (.of src) .none own) .nil)) env S = .ok (.bl (ds.all g)) S :=
  all_seq (w := ⟨ds, none⟩) hs rfl rfl hz h
theorem comp_tup {src elt : E} {i : Nat} {own : List Nat} {ds : List D} {g : D → D} (hs : evE c src env S = .ok (.tup ds) S) (hz : ds.length ≤ sizeLine)
    (h : ∀ d ∈ ds, evE c elt ((wipeE env own).set i (some d)) S = .ok (g d) S) : evE c (.comp false elt (.nm i) (.of src) .none own) env S = .ok (.lst (ds.map g)) S :=
  comp_seq (w := ⟨ds, none⟩) hs rfl rfl hz h
theorem comp_lst {src elt : E} {i : Nat} {own : List Nat} {ds : List D} {g : D → D} (hs : evE c src env S = .ok (.lst ds) S) (hz : ds.length ≤ sizeLine)
    (h : ∀ d ∈ ds, evE c elt ((wipeE env own).set i (some d)) S = .ok (g d) S) : evE c (.comp false elt (.nm i) (.of src) .none own) env S = .ok (.lst (ds.map g)) S :=
  comp_seq (w := ⟨ds, none⟩) hs rfl rfl hz h
/-- .. for any target -/
theorem comp_any {src elt : E} {tg : Tg} {own : List Nat} {ds : List D} {g : D → D} (hs : evE c src env S = .ok (.tup ds) S) (hz : ds.length ≤ sizeLine)
    (h : ∀ d ∈ ds, ∃ e1, bindTg tg (wipeE env own) d = some e1 ∧ evE c elt e1 S = .ok (g d) S) : evE c (.comp false elt tg (.of src) .none own) env S = .ok (.lst (ds.map g)) S := by
  refine ev_comp (w := ⟨ds, none⟩) (by rw [it_of, hs]; rfl) hz rfl ?_
  exact compL_map rfl ds fun d hd => let ⟨e1, h1, h2⟩ := h d hd; turn_ok h1 h2
theorem all_bl {g : D → Bool} (ds : List D) : evBi .all S [.lst (ds.map fun d => .bl (g d))] = some (.bl (ds.all g)) := by
  unfold evBi
  dsimp only
  unfold asL
  simp only [Option.bind_some]
  rw [asBls_map]
  show some (D.bl ((ds.map g).all id)) = _
  rw [List.all_map]
  rfl
theorem size_big : 1000000 ≤ sizeLine := by rw [sizeLine_eq]; decide
end
end MP

set_option linter.all false
set_option maxRecDepth 100000
set_option maxHeartbeats 1000000
/-! MiniPy, plain laws 3: what gives a value or raises; comprehensions over what stands for data. -/
namespace MP
open PySem
/-- gives this, or raises -/
def IsR {α : Type} (k : Nat) (r : R α) (o : Option α) (S : Sto) : Prop :=
  match o with
  | some a => r = .ok a S
  | none => ∃ m, r = .exc k m S
def IsS (k : Nat) (r : RS) (o : Option D) (S : Sto) : Prop :=
  match o with
  | some d => ∃ env, r = .ok (.rt d) env S
  | none => ∃ m env, r = .exc k m env S
section
variable {c : Cfg} {env : MP.Env} {S : Sto} {j : Nat}
theorem isR_some {α : Type} {r : R α} {a : α} (h : r = .ok a S) : IsR j r (some a) S := h
theorem isR_none {α : Type} {r : R α} {m : D} (h : r = .exc j m S) : IsR j r none S := ⟨m, h⟩
theorem isR_bind {α β : Type} {r : R α} {o : Option α} {f : α → Sto → R β} {p : α → Option β} (h : IsR j r o S) (g : ∀ a, o = some a → IsR j (f a S) (p a) S) : IsR j (r.bind f) (o.bind p) S := by
  cases o with
  | some a =>
    have h : r = .ok a S := h
    rw [h]
    exact g a rfl
  | none =>
    obtain ⟨m, h⟩ := h
    rw [h]
    exact ⟨m, rfl⟩
theorem call_isR {P : Prog} {M k i : Nat} {d : Def} {xs : List D} {o : Option D} (hd : P.defs[i]? = some d) (hl : xs.length = d.np) (h : IsS j (evSs (cfgN P M k) d.body (startE d xs) S) o S) : IsR j (callN P M (k + 1) i xs S) o S := by
  cases o with
  | some v => exact call_ret hd hl h
  | none =>
    obtain ⟨m, e, h⟩ := h
    exact ⟨m, call_exc hd hl ⟨e, h⟩⟩
theorem isS_some {r : RS} {d : D} {e : MP.Env} (h : r = .ok (.rt d) e S) : IsS j r (some d) S := ⟨e, h⟩
theorem isS_none {r : RS} {m : D} {e : MP.Env} (h : r = .exc j m e S) : IsS j r none S := ⟨m, e, h⟩
theorem isS_ret {e : E} {o : Option D} (h : IsR j (evE c e env S) o S) : IsS j (evS c (.ret e) env S) o S := by
  rw [s_ret]
  cases o with
  | some a =>
    have h : _ = _ := h
    rw [h]; exact ⟨_, rfl⟩
  | none =>
    obtain ⟨m, h⟩ := h
    rw [h]; exact ⟨_, _, rfl⟩
theorem isS_last {a : St} {o : Option D} (h : IsS j (evS c a env S) o S) : IsS j (evSs c (.cons a .nil) env S) o S := by
  cases o with
  | some d => obtain ⟨e, h⟩ := h; exact ⟨e, ss_rt h⟩
  | none => obtain ⟨m, e, h⟩ := h; exact ⟨m, e, ss_ex h⟩
theorem isS_go {a : St} {as : Sts} {e1 : MP.Env} {o : Option D} (h : evS c a env S = .ok .nx e1 S) (g : IsS j (evSs c as e1 S) o S) : IsS j (evSs c (.cons a as) env S) o S := by rw [ss_go h]; exact g
/-- x = e -/
theorem isS_asg {tg : Tg} {e : E} {as : Sts} {o : Option D} {p : D → Option D} (h : IsR j (evE c e env S) o S) (g : ∀ d, o = some d → ∃ e1, bindTg tg env d = some e1 ∧ IsS j (evSs c as e1 S) (p d) S) :
    IsS j (evSs c (.cons (.asg tg e) as) env S) (o.bind p) S := by
  cases o with
  | some d =>
    have h : _ = _ := h
    obtain ⟨e1, h1, h2⟩ := g d rfl
    have : evS c (.asg tg e) env S = .ok .nx e1 S := by rw [s_asg, h, t_ok, h1]
    rw [ss_go this]
    exact h2
  | none =>
    obtain ⟨m, h⟩ := h
    refine ⟨m, env, ss_ex ?_⟩
    rw [s_asg, h]; rfl
/-! ### comprehensions -/
theorem compL_al {α : Type} {w : Walkd} {f : D → Sto → R (Option D)} {e g : α → D} (hst : w.still S = true) : ∀ (l : List α), (∀ a ∈ l, f (e a) S = .ok (some (g a)) S) → compL w f (l.map e) S = .ok (l.map g) S
  | [], _ => by rw [List.map_nil, compL]; rfl
  | d :: ds, h => by
    rw [List.map_cons, compL, if_pos hst, h d List.mem_cons_self]
    show (compL w f (ds.map e) S).bind _ = _
    rw [compL_al hst ds fun x hx => h x (List.mem_cons_of_mem _ hx)]
    rfl
theorem compL_op {α : Type} {w : Walkd} {f : D → Sto → R (Option D)} {e : α → D} {g : α → Option D} (hst : w.still S = true) : ∀ (l : List α), (∀ a ∈ l, IsR j (f (e a) S) ((g a).map some) S) → IsR j (compL w f (l.map e) S) (l.mapM g) S
  | [], _ => by rw [List.map_nil, compL]; rfl
  | d :: ds, h => by
    rw [List.map_cons, compL, if_pos hst, List.mapM_cons]
    have h1 := h d List.mem_cons_self
    cases q : g d with
    | none =>
      rw [q] at h1
      obtain ⟨m, h1⟩ := h1
      rw [h1]; exact ⟨m, rfl⟩
    | some y =>
      rw [q] at h1
      have h1 : f (e d) S = .ok (some y) S := h1
      rw [h1]
      have ih := compL_op hst ds fun x hx => h x (List.mem_cons_of_mem _ hx)
      cases q2 : ds.mapM g with
      | none =>
        rw [q2] at ih
        obtain ⟨m, ih⟩ := ih
        refine ⟨m, ?_⟩
        show (compL w f (ds.map e) S).bind _ = _
        rw [ih]; rfl
      | some ys =>
        rw [q2] at ih
        have ih : _ = _ := ih
        show (compL w f (ds.map e) S).bind _ = _
        rw [ih]; rfl
theorem comp_al {α : Type} {src elt : E} {tg : Tg} {own : List Nat} {e g : α → D} {l : List α} {v : D} (hs : evE c src env S = .ok v S) (hi : itOf S v = some ⟨l.map e, none⟩) (hz : l.length ≤ sizeLine)
    (h : ∀ a ∈ l, ∃ e1, bindTg tg (wipeE env own) (e a) = some e1 ∧ evE c elt e1 S = .ok (g a) S) : evE c (.comp false elt tg (.of src) .none own) env S = .ok (.lst (l.map g)) S := by
  refine ev_comp (w := ⟨l.map e, none⟩) (by rw [it_of, hs]; show rOpt S (itOf S v) = _; rw [hi]; rfl) (by rw [List.length_map]; exact hz) rfl ?_
  exact compL_al rfl l fun a ha => let ⟨e1, h1, h2⟩ := h a ha; turn_ok h1 h2
theorem comp_op {α : Type} {src elt : E} {tg : Tg} {own : List Nat} {e : α → D} {g : α → Option D} {l : List α} {v : D} (hs : evE c src env S = .ok v S) (hi : itOf S v = some ⟨l.map e, none⟩) (hz : l.length ≤ sizeLine)
    (h : ∀ a ∈ l, ∃ e1, bindTg tg (wipeE env own) (e a) = some e1 ∧ IsR j (evE c elt e1 S) (g a) S) : IsR j (evE c (.comp false elt tg (.of src) .none own) env S) ((l.mapM g).map .lst) S := by
  have hw : evIt c (.of src) env S = .ok ⟨l.map e, none⟩ S := by rw [it_of, hs]; show rOpt S (itOf S v) = _; rw [hi]; rfl
  have h2 := compL_op (j := j) (w := ⟨l.map e, none⟩) (f := cTurn c elt tg .none (wipeE env own)) (e := e) (g := g) (S := S) rfl l (fun a ha => by
    obtain ⟨e1, h1, h2⟩ := h a ha
    cases q : g a with
    | some y => rw [q] at h2; exact turn_ok h1 h2
    | none => rw [q] at h2; obtain ⟨m, h2⟩ := h2; exact ⟨m, turn_exc h1 h2⟩)
  cases q : l.mapM g with
  | some ys =>
    rw [q] at h2
    exact ev_comp hw (by rw [List.length_map]; exact hz) rfl h2
  | none =>
    rw [q] at h2
    obtain ⟨m, h2⟩ := h2
    exact ⟨m, ev_comp_exc hw (by rw [List.length_map]; exact hz) h2⟩
theorem all_bls {α : Type} (f : α → Bool) (l : List α) : evBi .all S [.lst (l.map fun a => .bl (f a))] = some (.bl (l.all f)) := by
  have h : ∀ l : List α, asBls (l.map fun a => .bl (f a)) = some (l.map f) := by
    intro l
    induction l with
    | nil => rfl
    | cons x l ih =>
      rw [List.map_cons, List.map_cons]
      unfold asBls
      rw [ih]; rfl
  unfold evBi
  dsimp only
  unfold asL
  simp only [Option.bind_some]
  rw [h]
  show some (D.bl ((l.map f).all id)) = _
  rw [List.all_map]
  rfl
theorem le_big {n : Nat} (h : n ≤ 1000000) : n ≤ sizeLine := Nat.le_trans h size_big
/-! ### texts as lists of signs -/
theorem eq_S (T : Sto) (a b : List Nat) : evCmp .eq T (.str (SX.S a)) (.str (SX.S b)) = some (decide (a = b)) := by
  show evEq T (.str (SX.S a)) (.str (SX.S b)) = _
  unfold evEq
  dsimp only
  congr 1
  rw [decide_eq_decide]
  exact ⟨fun h => SX.S_inj h, fun h => by rw [h]⟩
theorem ne_S (T : Sto) (a b : List Nat) : evCmp .ne T (.str (SX.S a)) (.str (SX.S b)) = some (!decide (a = b)) := by
  have := eq_S T a b
  show (evEq T (.str (SX.S a)) (.str (SX.S b))).map _ = _
  have h : evEq T (.str (SX.S a)) (.str (SX.S b)) = some (decide (a = b)) := this
  rw [h]; rfl
theorem it_S (T : Sto) (a : List Nat) : itOf T (.str (SX.S a)) = some ⟨a.map fun c => .str (SX.S [c]), none⟩ := rfl
theorem len_S (T : Sto) (a : List Nat) (h : a.length ≤ 1000000) : evBi .len T [.str (SX.S a)] = some (.int a.length) := by
  unfold evBi
  dsimp only
  rw [SX.S_len, if_pos (le_big h)]
theorem in_S (T : Sto) (c : Nat) (a : List Nat) : evCmp .isin T (.str (SX.S [c])) (.str (SX.S a)) = some (decide (c ∈ a)) := by
  show evIn T (.str (SX.S [c])) (.str (SX.S a)) = _
  unfold evIn
  dsimp only
  rw [if_pos (by rfl)]
  rfl
theorem split_ev (T : Sto) (a b : List Nat) (hb : b ≠ []) (hk : b.all (· < 256) = true) (h : a.length ≤ 100000) : evMe .split T (.str (SX.S a)) [.str (SX.S b)] = some (.lst ((TL.spl b 0 [] a).map fun x => .str (SX.S x))) := by
  unfold evMe
  dsimp only
  rw [SX.S_len, SX.S_len, if_pos ⟨by simpa using hb, Nat.le_trans (Nat.add_le_add_right h 2) (le_big (by decide))⟩, SX.split_S hb hk, List.map_map]
  rfl
theorem part_ev_some (T : Sto) {a b p q : List Nat} (hb : b ≠ []) (h : a.length ≤ 100000) (hp : TL.par b [] a = some (p, q)) : evMe .partition T (.str (SX.S a)) [.str (SX.S b)] = some (.tup [.str (SX.S p), .str (SX.S b), .str (SX.S q)]) := by
  unfold evMe
  dsimp only
  rw [SX.S_len, SX.S_len, if_pos ⟨by simpa using hb, Nat.le_trans h (le_big (by decide))⟩, SX.partition_some hb hp]
theorem part_ev_none (T : Sto) {a b : List Nat} (hb : b ≠ []) (h : a.length ≤ 100000) (hp : TL.par b [] a = none) : evMe .partition T (.str (SX.S a)) [.str (SX.S b)] = some (.tup [.str (SX.S a), .str (SX.S []), .str (SX.S [])]) := by
  unfold evMe
  dsimp only
  rw [SX.S_len, SX.S_len, if_pos ⟨by simpa using hb, Nat.le_trans h (le_big (by decide))⟩, SX.partition_none hb hp]
theorem splL_len (b : List Nat) : ∀ (l : List Nat) (k : Nat) (acc : List Nat), (TL.spl b k acc l).length ≤ l.length + 1
  | [], k, acc => by rw [TL.spl_nil]; simp
  | c :: r, 0, acc => by
    unfold TL.spl
    split
    · have := splL_len b r (b.length - 1) []
      simp only [List.length_cons]; omega
    · have := splL_len b r 0 (acc ++ [c])
      simp only [List.length_cons]; omega
  | c :: r, k + 1, acc => by
    unfold TL.spl
    have := splL_len b r k acc
    simp only [List.length_cons]; omega
theorem spl_sum (b : List Nat) : ∀ (l : List Nat) (k : Nat) (acc : List Nat), ((TL.spl b k acc l).map (·.length)).sum ≤ l.length + acc.length
  | [], k, acc => by rw [TL.spl_nil]; simp
  | c :: r, 0, acc => by
    unfold TL.spl
    split
    · have := spl_sum b r (b.length - 1) []
      simp only [List.map_cons, List.sum_cons, List.length_cons, List.length_nil] at this ⊢; omega
    · have := spl_sum b r 0 (acc ++ [c])
      simp only [List.length_cons, List.length_append, List.length_nil] at this ⊢; omega
  | c :: r, k + 1, acc => by
    unfold TL.spl
    have := spl_sum b r k acc
    simp only [List.length_cons]; omega
theorem mem_sum {l : List (List Nat)} {x : List Nat} (h : x ∈ l) : x.length ≤ (l.map (·.length)).sum := by
  induction l with
  | nil => cases h
  | cons y l ih =>
    rw [List.map_cons, List.sum_cons]
    rcases List.mem_cons.mp h with rfl | h
    · omega
    · have := ih h; omega
theorem spl_mem {b l x : List Nat} (h : x ∈ TL.spl b 0 [] l) : x.length ≤ l.length := by
  have := mem_sum h
  have := spl_sum b l 0 []
  simp at this; omega
theorem par_len {b : List Nat} : ∀ {l acc p q : List Nat}, TL.par b acc l = some (p, q) → p.length + q.length ≤ l.length + acc.length
  | [], acc, p, q, h => by cases h
  | c :: r, acc, p, q, h => by
    unfold TL.par at h
    split at h
    · cases h
      simp only [List.length_drop, List.length_cons]; omega
    · have := par_len h
      simp only [List.length_append, List.length_cons, List.length_nil] at this ⊢; omega
theorem joinL_len (s : List Nat) : ∀ l : List (List Nat), (TL.joinL s l).length ≤ (l.map (·.length)).sum + l.length * s.length
  | [] => by simp [TL.joinL]
  | [p] => by simp [TL.joinL]
  | p :: q :: r => by
    have := joinL_len s (q :: r)
    show (p ++ (s ++ TL.joinL s (q :: r))).length ≤ _
    simp only [List.length_append, List.map_cons, List.sum_cons, List.length_cons, Nat.add_mul] at this ⊢
    omega
theorem sum_le {α : Type} (f : α → Nat) (B : Nat) : ∀ l : List α, (∀ a ∈ l, f a ≤ B) → (l.map f).sum ≤ l.length * B
  | [], _ => by simp
  | a :: l, h => by
    have := sum_le f B l fun x hx => h x (List.mem_cons_of_mem _ hx)
    have := h a List.mem_cons_self
    simp only [List.map_cons, List.sum_cons, List.length_cons, Nat.add_mul]; omega
end
end MP

set_option linter.all false
set_option maxRecDepth 100000
set_option maxHeartbeats 1000000
/-! MiniPy, plain laws 4: the drawn numbers, loops by what stays true, calls that leave the store. -/
namespace MP
open PySem
/-! ### loops -/
theorem forL_inv {w : Walkd} {f : D → MP.Env → Sto → RS} (hk : w.keep = none) (I : MP.Env → Sto → Prop) : ∀ (ds : List D) (env : MP.Env) (S : Sto), I env S → (∀ d ∈ ds, ∀ env S, I env S → ∃ e1 S1, f d env S = .ok .nx e1 S1 ∧ I e1 S1) →
    ∃ e1 S1, forL w f ds env S = .ok .nx e1 S1 ∧ I e1 S1
  | [], env, S, h, _ => ⟨env, S, by rw [forL, if_pos (by unfold Walkd.still; rw [hk])], h⟩
  | d :: ds, env, S, h, g => by
    obtain ⟨e1, S1, h1, h2⟩ := g d List.mem_cons_self env S h
    obtain ⟨e2, S2, h3, h4⟩ := forL_inv hk I ds e1 S1 h2 fun x hx => g x (List.mem_cons_of_mem _ hx)
    refine ⟨e2, S2, ?_, h4⟩
    rw [forL, if_pos (by unfold Walkd.still; rw [hk]), h1]
    exact h3
/-- .. that is entered at least once, and then more is true -/
theorem forL_inv1 {w : Walkd} {f : D → MP.Env → Sto → RS} (hk : w.keep = none) (I J : MP.Env → Sto → Prop) (hJ : ∀ e S, J e S → I e S) (d : D) (ds : List D) (env : MP.Env) (S : Sto) (h : I env S) (g : ∀ x ∈ d :: ds, ∀ env S, I env S → ∃ e1 S1, f x env S = .ok .nx e1 S1 ∧ J e1 S1) :
    ∃ e1 S1, forL w f (d :: ds) env S = .ok .nx e1 S1 ∧ J e1 S1 := by
  obtain ⟨e1, S1, h1, h2⟩ := g d List.mem_cons_self env S h
  obtain ⟨e2, S2, h3, h4⟩ := forL_inv hk J ds e1 S1 h2 fun x hx env S q => g x (List.mem_cons_of_mem _ hx) env S (hJ _ _ q)
  refine ⟨e2, S2, ?_, h4⟩
  rw [forL, if_pos (by unfold Walkd.still; rw [hk]), h1]
  exact h3
/-- .. whose place in the walk is told -/
theorem forL_ix {α : Type} {w : Walkd} {f : D → MP.Env → Sto → RS} {e : α → D} (hk : w.keep = none) (I : List α → MP.Env → Sto → Prop) : ∀ (l done : List α) (env : MP.Env) (S : Sto), I done env S →
    (∀ (dn : List α) (a : α) (rest : List α), done ++ l = dn ++ a :: rest → ∀ env S, I dn env S → ∃ e1 S1, f (e a) env S = .ok .nx e1 S1 ∧ I (dn ++ [a]) e1 S1) →
    ∃ e1 S1, forL w f (l.map e) env S = .ok .nx e1 S1 ∧ I (done ++ l) e1 S1
  | [], done, env, S, h, _ => ⟨env, S, by rw [List.map_nil, forL, if_pos (by unfold Walkd.still; rw [hk])], by rw [List.append_nil]; exact h⟩
  | a :: l, done, env, S, h, g => by
    obtain ⟨e1, S1, h1, h2⟩ := g done a l rfl env S h
    obtain ⟨e2, S2, h3, h4⟩ := forL_ix hk I l (done ++ [a]) e1 S1 h2 fun dn x rest hx => g dn x rest (by rw [← hx, List.append_assoc]; rfl)
    refine ⟨e2, S2, ?_, by rw [List.append_assoc] at h4; exact h4⟩
    rw [List.map_cons, forL, if_pos (by unfold Walkd.still; rw [hk]), h1]
    exact h3
/-- comprehensions whose turns change the store -/
theorem compL_inv {w : Walkd} {f : D → Sto → R (Option D)} (hk : w.keep = none) (I : Sto → Prop) (J : D → Prop) : ∀ (ds : List D) (S : Sto), I S → (∀ d ∈ ds, ∀ S, I S → ∃ y S1, f d S = .ok (some y) S1 ∧ J y ∧ I S1) →
    ∃ ys S1, compL w f ds S = .ok ys S1 ∧ ys.length = ds.length ∧ (∀ y ∈ ys, J y) ∧ I S1
  | [], S, h, _ => ⟨[], S, by rw [compL], rfl, fun y hy => (nomatch hy), h⟩
  | d :: ds, S, h, g => by
    obtain ⟨y, S1, h1, h2, h3⟩ := g d List.mem_cons_self S h
    obtain ⟨ys, S2, h4, h5, h6, h7⟩ := compL_inv hk I J ds S1 h3 fun x hx => g x (List.mem_cons_of_mem _ hx)
    refine ⟨y :: ys, S2, ?_, by rw [List.length_cons, List.length_cons, h5], fun z hz => ?_, h7⟩
    · rw [compL, if_pos (by unfold Walkd.still; rw [hk]), h1]
      show (compL w f ds S1).bind _ = _
      rw [h4]; rfl
    · rcases List.mem_cons.mp hz with rfl | hz
      · exact h2
      · exact h6 z hz
section
variable {c : Cfg} {env : MP.Env} {S S0 : Sto}
theorem comp_inv {elt : E} {tg : Tg} {it : It} {own : List Nat} {ds : List D} (hi : evIt c it env S = .ok ⟨ds, none⟩ S0) (hz : ds.length ≤ sizeLine) (I : Sto → Prop) (J : D → Prop) (h : I S0)
    (g : ∀ d ∈ ds, ∀ S, I S → ∃ e1 y S1, bindTg tg (wipeE env own) d = some e1 ∧ evE c elt e1 S = .ok y S1 ∧ J y ∧ I S1) :
    ∃ ys S1, evE c (.comp false elt tg it .none own) env S = .ok (.lst ys) S1 ∧ ys.length = ds.length ∧ (∀ y ∈ ys, J y) ∧ I S1 := by
  obtain ⟨ys, S1, h1, h2, h3, h4⟩ := compL_inv (w := ⟨ds, none⟩) (f := cTurn c elt tg .none (wipeE env own)) rfl I J ds S0 h fun d hd S hS => by
    obtain ⟨e1, y, S1, h1, h2, h3, h4⟩ := g d hd S hS
    refine ⟨y, S1, ?_, h3, h4⟩
    unfold cTurn
    rw [h1]
    show (evEb c .none e1 S).bind _ = _
    rw [eb_none]
    show (evE c elt e1 S).bind _ = _
    rw [h2]; rfl
  refine ⟨ys, S1, ?_, h2, h3, h4⟩
  rw [evE, hi]
  show (if ds.length ≤ sizeLine then (compL ⟨ds, none⟩ (cTurn c elt tg .none (wipeE env own)) ds S0).bind _ else _) = _
  rw [if_pos hz, h1]
  rfl
end
/-! ### calls that leave the store -/
theorem call_gc {P : Prog} {M k i : Nat} {d : Def} {xs : List D} {S T : Sto} {v : D} (hd : P.defs[i]? = some d) (hl : xs.length = d.np) (hv : v.inf S.length = true) (hS : S.all (Ob.inf S.length) = true) (h : ∃ env, evSs (cfgN P M k) d.body (startE d xs) S = .ok (.rt v) env (S ++ T)) :
    callN P M (k + 1) i xs S = .ok v S := by
  obtain ⟨env, h⟩ := h
  rw [call_run M k i d xs S hd hl, h]
  unfold finS gcR
  dsimp only
  rw [List.take_left, hv, hS]; rfl
theorem call_gcE {P : Prog} {M k i : Nat} {d : Def} {xs : List D} {S T : Sto} {v : D} {j : Nat} (hd : P.defs[i]? = some d) (hl : xs.length = d.np) (hv : v.inf S.length = true) (hS : S.all (Ob.inf S.length) = true) (h : ∃ env, evSs (cfgN P M k) d.body (startE d xs) S = .exc j v env (S ++ T)) :
    callN P M (k + 1) i xs S = .exc j v S := by
  obtain ⟨env, h⟩ := h
  rw [call_run M k i d xs S hd hl, h]
  unfold finS gcR
  dsimp only
  rw [List.take_left, hv, hS]; rfl
/-- a call behind which the store is of the same length -/
theorem call_same {P : Prog} {M k i : Nat} {d : Def} {xs : List D} {S S1 : Sto} {v : D} (hd : P.defs[i]? = some d) (hl : xs.length = d.np) (he : S1.length = S.length) (h : ∃ env, evSs (cfgN P M k) d.body (startE d xs) S = .ok (.rt v) env S1) :
    callN P M (k + 1) i xs S = .ok v S1 := by
  obtain ⟨env, h⟩ := h
  rw [call_run M k i d xs S hd hl, h]
  unfold finS
  dsimp only
  rw [← he]
  exact gcR_same S1 v
/-- .. and one that leaves some locations, of which nothing speaks -/
theorem call_cut {P : Prog} {M k i : Nat} {d : Def} {xs : List D} {S S1 T : Sto} {v : D} (hd : P.defs[i]? = some d) (hl : xs.length = d.np) (he : S1.length = S.length) (hv : v.inf S1.length = true) (hS : S1.all (Ob.inf S1.length) = true) (h : ∃ env, evSs (cfgN P M k) d.body (startE d xs) S = .ok (.rt v) env (S1 ++ T)) :
    callN P M (k + 1) i xs S = .ok v S1 := by
  obtain ⟨env, h⟩ := h
  rw [call_run M k i d xs S hd hl, h]
  unfold finS gcR
  dsimp only
  rw [← he, List.take_left, hv, hS]; rfl
theorem at_last (S : Sto) (o : Ob) : (S ++ [o])[S.length]? = some o := by rw [List.getElem?_append_right (Nat.le_refl _), Nat.sub_self]; rfl
theorem set_last (S : Sto) (o p : Ob) : (S ++ [o]).set S.length p = S ++ [p] := by rw [List.set_append_right _ _ (Nat.le_refl _), Nat.sub_self]; rfl
/-- append at the last location -/
theorem app_last (S : Sto) (xs : List D) (d : D) (h : xs.length ≤ 1000000) : evLm .append (S ++ [.lst xs]) (.loc S.length) [d] = .ok .non (S ++ [.lst (xs ++ [d])]) := by
  unfold evLm
  dsimp only
  rw [at_last]
  dsimp only
  rw [set_last, if_pos (by have : (1000000 : Nat) < sizeLine := by rw [sizeLine_eq]; decide
                           omega)]
theorem loc_last (S : Sto) (xs : List D) : isLocD (S ++ [.lst xs]) (.loc S.length) = true := by
  unfold isLocD
  dsimp only
  rw [at_last]
theorem asL_last (S : Sto) (xs : List D) : asL (S ++ [.lst xs]) (.loc S.length) = some xs := by
  unfold asL
  dsimp only
  rw [at_last]
/-! ### numbers drawn from the script -/
structure Draw where
  cells : List Int
  pos : Int
  cur : Int
  seed : Int
def Draw.L (d : Draw) : List D := [.lst (d.cells.map .int), .int d.pos, .int d.cur, .int d.seed]
def Draw.ok (d : Draw) : Prop := (∀ c ∈ d.cells, 0 ≤ c) ∧ -1 ≤ d.pos ∧ 0 ≤ d.cur ∧ 0 ≤ d.seed ∧ d.seed < 2147483647
def Draw.S (d : Draw) : Sto := [.lst d.L]
def takeDef : Def := ⟨2, 3, (.cons (.ifs (.cmp .eq (.idx (.var 0) (.int 2)) (.int 0)) (.cons (.sset (.var 0) (.int 1) (.bin .add (.idx (.var 0) (.int 1)) (.int 1)))
  (.cons (.ifs (.cmp .lt (.idx (.var 0) (.int 1)) (.bi .len (.cons (.idx (.var 0) (.int 0)) .nil))) (.cons (.sset (.var 0) (.int 2) (.idx (.idx (.var 0) (.int 0)) (.idx (.var 0) (.int 1))))
  .nil) .nil)
  (.cons (.ifs (.cmp .eq (.idx (.var 0) (.int 2)) (.int 0)) (.cons (.sset (.var 0) (.int 3) (.bin .mod (.bi .int (.cons (.bin .add (.bin .mul (.idx (.var 0) (.int 3)) (.int 48271)) (.int 11)) .nil)) (.int 2147483647)))
  (.cons (.sset (.var 0) (.int 2) (.idx (.var 0) (.int 3)))
  .nil)) .nil)
  .nil))) .nil)
  (.cons (.asg (.nm 2) (.bin .mod (.bi .int (.cons (.idx (.var 0) (.int 2)) .nil)) (.var 1)))
  (.cons (.sset (.var 0) (.int 2) (.bin .fdiv (.idx (.var 0) (.int 2)) (.var 1)))
  (.cons (.ret (.var 2))
  .nil))))⟩
section
variable {P : Prog} {M k : Nat} {T : Sto}
theorem dr_i0 (a b c d : D) : evIdx (.lst [a, b, c, d] :: T) (.loc 0) (.int 0) = some a := rfl
theorem dr_i1 (a b c d : D) : evIdx (.lst [a, b, c, d] :: T) (.loc 0) (.int 1) = some b := rfl
theorem dr_i2 (a b c d : D) : evIdx (.lst [a, b, c, d] :: T) (.loc 0) (.int 2) = some c := rfl
theorem dr_i3 (a b c d : D) : evIdx (.lst [a, b, c, d] :: T) (.loc 0) (.int 3) = some d := rfl
theorem dr_x1 : L2.ixN 4 1 = some 1 := rfl
theorem dr_x2 : L2.ixN 4 2 = some 2 := rfl
theorem dr_x3 : L2.ixN 4 3 = some 3 := rfl
theorem dr_y1 : L2.ixN (0 + 1 + 1 + 1 + 1) 1 = some 1 := rfl
theorem dr_y2 : L2.ixN (0 + 1 + 1 + 1 + 1) 2 = some 2 := rfl
theorem dr_y3 : L2.ixN (0 + 1 + 1 + 1 + 1) 3 = some 3 := rfl
theorem dr_mul (U : Sto) (s : Int) (h0 : 0 ≤ s) (h1 : s < 2147483647) : evBin .mul U (.int s) (.int 48271) = some (.int (s * 48271)) := by
  unfold evBin
  dsimp only
  rw [if_pos]
  have h2 : s.natAbs.log2 ≤ 31 := by
    by_cases z : s.natAbs = 0
    · rw [z]; decide
    · have := (Nat.log2_lt z (k := 31)).mpr (by omega)
      omega
  have h3 : (48271 : Int).natAbs.log2 = 15 := by decide
  omega
theorem dr_mod (U : Sto) (s : Int) : evBin .mod U (.int s) (.int 2147483647) = some (.int (s.fmod 2147483647)) := rfl
theorem take_ev {i : Nat} (hd : P.defs[i]? = some takeDef) (dr : Draw) (hok : dr.ok) (m : Int) (h0 : 0 < m) (h1 : m < 1073741824) :
    ∃ (v : Int) (dr' : Draw), callN P M (k + 1) i [.loc 0, .int m] (.lst dr.L :: T) = .ok (.int v) (.lst dr'.L :: T) ∧ 0 ≤ v ∧ v < m ∧ dr'.ok := by
  obtain ⟨o1, o2, o3, o4, o5⟩ := hok
  have step : ∃ dr1 : Draw, evS (cfgN P M k) (.ifs (.cmp .eq (.idx (.var 0) (.int 2)) (.int 0)) (.cons (.sset (.var 0) (.int 1) (.bin .add (.idx (.var 0) (.int 1)) (.int 1)))
    (.cons (.ifs (.cmp .lt (.idx (.var 0) (.int 1)) (.bi .len (.cons (.idx (.var 0) (.int 0)) .nil))) (.cons (.sset (.var 0) (.int 2) (.idx (.idx (.var 0) (.int 0)) (.idx (.var 0) (.int 1)))) .nil) .nil)
    (.cons (.ifs (.cmp .eq (.idx (.var 0) (.int 2)) (.int 0)) (.cons (.sset (.var 0) (.int 3) (.bin .mod (.bi .int (.cons (.bin .add (.bin .mul (.idx (.var 0) (.int 3)) (.int 48271)) (.int 11)) .nil)) (.int 2147483647)))
    (.cons (.sset (.var 0) (.int 2) (.idx (.var 0) (.int 3))) .nil)) .nil) .nil))) .nil) [some (.loc 0), some (.int m), none] (.lst dr.L :: T) = .ok .nx [some (.loc 0), some (.int m), none] (.lst dr1.L :: T) ∧ dr1.ok := by
    by_cases hc : dr.cur = 0
    · have hs : ∀ (ps : Int) (cu : Int), cu = 0 → ∃ dr1 : Draw, evSs (cfgN P M k) (.cons (.ifs (.cmp .eq (.idx (.var 0) (.int 2)) (.int 0)) (.cons (.sset (.var 0) (.int 3) (.bin .mod (.bi .int (.cons (.bin .add (.bin .mul (.idx (.var 0) (.int 3)) (.int 48271)) (.int 11)) .nil)) (.int 2147483647)))
          (.cons (.sset (.var 0) (.int 2) (.idx (.var 0) (.int 3))) .nil)) .nil) .nil) [some (.loc 0), some (.int m), none] (.lst (Draw.mk dr.cells ps cu dr.seed).L :: T) = .ok .nx [some (.loc 0), some (.int m), none] (.lst dr1.L :: T) ∧ (-1 ≤ ps → dr1.ok) := by
        intro ps cu hcu
        subst hcu
        have hm := dr_mul (.lst (Draw.mk dr.cells ps 0 dr.seed).L :: T) dr.seed o4 o5
        refine ⟨⟨dr.cells, ps, (dr.seed * 48271 + 11).fmod 2147483647, (dr.seed * 48271 + 11).fmod 2147483647⟩, ?_, fun hps => ⟨o1, hps, Int.fmod_nonneg_of_pos _ (by decide), Int.fmod_nonneg_of_pos _ (by decide), Int.fmod_lt_of_pos _ (by decide)⟩⟩
        unfold Draw.L at hm ⊢
        dsimp only at hm ⊢
        simp [cfg_call, cfg_N, ev_var, ev_non, ev_bl, ev_int, ev_str, ev_glb, ev_bin, ev_neg, ev_no, ev_cmp, ev_chain, ev_isN, ev_and, ev_or, ev_ife, ev_call, ev_bi, ev_isi, ev_me, ev_repl, ev_lm, ev_idx, ev_slc, ev_rev, ev_tup, ev_lstF, ev_lstT, ev_dct, es_nil, es_cons, eo_none, eo_some, ss_nil, ss_cons, s_asg, s_asgc, s_par2, s_par3, s_aug, s_sset, s_xpr, s_ifs, s_ret, s_raise, s_try, it_of, it_rng1, eb_none, eb_some, b_ok, b_exc, t_ok, t_exc, r_some, RS.next, bindTg, List.getElem?_cons_zero, List.getElem?_cons_succ, List.set_cons_zero, List.set_cons_succ, ss_nil, dr_i0, dr_i1, dr_i2, dr_i3, dr_x1, dr_x2, dr_x3, evCmp, eqI, hm, dr_mod, evBi]
        simp only [evBin, r_some, b_ok, t_ok, dr_mod]
        simp [cfg_call, cfg_N, ev_var, ev_non, ev_bl, ev_int, ev_str, ev_glb, ev_bin, ev_neg, ev_no, ev_cmp, ev_chain, ev_isN, ev_and, ev_or, ev_ife, ev_call, ev_bi, ev_isi, ev_me, ev_repl, ev_lm, ev_idx, ev_slc, ev_rev, ev_tup, ev_lstF, ev_lstT, ev_dct, es_nil, es_cons, eo_none, eo_some, ss_nil, ss_cons, s_asg, s_asgc, s_par2, s_par3, s_aug, s_sset, s_xpr, s_ifs, s_ret, s_raise, s_try, it_of, it_rng1, eb_none, eb_some, b_ok, b_exc, t_ok, t_exc, r_some, RS.next, bindTg, List.getElem?_cons_zero, List.getElem?_cons_succ, List.set_cons_zero, List.set_cons_succ, ss_nil, dr_i0, dr_i1, dr_i2, dr_i3, dr_x1, dr_x2, dr_x3, evCmp, eqI, hm, dr_mod, evBi]
      by_cases hp : dr.pos + 1 < dr.cells.length
      · obtain ⟨j, hj⟩ : ∃ j : Nat, dr.pos + 1 = j := ⟨(dr.pos + 1).toNat, by omega⟩
        have hjl : j < dr.cells.length := by omega
        have hat : evIdx (.lst [.lst (dr.cells.map .int), .int (dr.pos + 1), .int dr.cur, .int dr.seed] :: T) (.lst (dr.cells.map .int)) (.int (dr.pos + 1)) = some (.int dr.cells[j]) := by
          show (L2.atI (dr.cells.map D.int) (dr.pos + 1)) = _
          rw [hj]
          exact L2.atI_nat (by rw [List.getElem?_map, List.getElem?_eq_getElem hjl]; rfl)
        have hcj := o1 _ (List.getElem_mem hjl)
        by_cases hz : dr.cells[j] = 0
        · obtain ⟨dr1, e1, e2⟩ := hs (dr.pos + 1) dr.cells[j] hz
          refine ⟨dr1, ?_, e2 (by omega)⟩
          rw [← e1]
          have hlt : evCmp .lt (.lst [.lst (dr.cells.map .int), .int (dr.pos + 1), .int dr.cur, .int dr.seed] :: T) (.int (dr.pos + 1)) (.int dr.cells.length) = some true := by
            show some (decide (_ < _)) = _
            rw [decide_eq_true hp]
          have hln : evBi .len (.lst [.lst (dr.cells.map .int), .int (dr.pos + 1), .int dr.cur, .int dr.seed] :: T) [.lst (dr.cells.map .int)] = some (.int dr.cells.length) := by
            show some (D.int (dr.cells.map D.int).length) = _
            rw [List.length_map]
          have hq : evCmp .eq (.lst dr.L :: T) (.int dr.cur) (.int 0) = some true := by
            show evEq (.lst dr.L :: T) (.int dr.cur) (.int 0) = _
            rw [eqI, hc]; rfl
          have ha : evBin .add (.lst dr.L :: T) (.int dr.pos) (.int 1) = some (.int (dr.pos + 1)) := rfl
          unfold Draw.L at hq ha ⊢
          dsimp only at hq ha ⊢
          rw [s_ifs]
          simp only [cfg_call, cfg_N, ev_var, ev_non, ev_bl, ev_int, ev_str, ev_glb, ev_bin, ev_neg, ev_no, ev_cmp, ev_chain, ev_isN, ev_and, ev_or, ev_ife, ev_call, ev_bi, ev_isi, ev_me, ev_repl, ev_lm, ev_idx, ev_slc, ev_rev, ev_tup, ev_lstF, ev_lstT, ev_dct, es_nil, es_cons, eo_none, eo_some, ss_nil, ss_cons, s_asg, s_asgc, s_par2, s_par3, s_aug, s_sset, s_xpr, s_ifs, s_ret, s_raise, s_try, it_of, it_rng1, eb_none, eb_some, b_ok, b_exc, t_ok, t_exc, r_some, RS.next, bindTg, List.getElem?_cons_zero, List.getElem?_cons_succ, List.set_cons_zero, List.set_cons_succ, ↓reduceIte, dr_i0, dr_i1, dr_i2, dr_i3, hq, ha, hlt, hln, hat, dr_y1, dr_y2, dr_y3, List.length_cons, List.length_nil, ss_nil]
        · refine ⟨⟨dr.cells, dr.pos + 1, dr.cells[j], dr.seed⟩, ?_, ⟨o1, by show (-1 : Int) ≤ dr.pos + 1; omega, hcj, o4, o5⟩⟩
          have hlt : evCmp .lt (.lst [.lst (dr.cells.map .int), .int (dr.pos + 1), .int dr.cur, .int dr.seed] :: T) (.int (dr.pos + 1)) (.int dr.cells.length) = some true := by
            show some (decide (_ < _)) = _
            rw [decide_eq_true hp]
          have hln : evBi .len (.lst [.lst (dr.cells.map .int), .int (dr.pos + 1), .int dr.cur, .int dr.seed] :: T) [.lst (dr.cells.map .int)] = some (.int dr.cells.length) := by
            show some (D.int (dr.cells.map D.int).length) = _
            rw [List.length_map]
          have hq : evCmp .eq (.lst dr.L :: T) (.int dr.cur) (.int 0) = some true := by
            show evEq (.lst dr.L :: T) (.int dr.cur) (.int 0) = _
            rw [eqI, hc]; rfl
          have hq2 : ∀ U : Sto, evCmp .eq U (.int dr.cells[j]) (.int 0) = some false := fun U => by
            show evEq U (.int dr.cells[j]) (.int 0) = _
            rw [eqI, decide_eq_false hz]
          have ha : evBin .add (.lst dr.L :: T) (.int dr.pos) (.int 1) = some (.int (dr.pos + 1)) := rfl
          unfold Draw.L at hq ha ⊢
          dsimp only at hq ha ⊢
          rw [s_ifs]
          simp only [cfg_call, cfg_N, ev_var, ev_non, ev_bl, ev_int, ev_str, ev_glb, ev_bin, ev_neg, ev_no, ev_cmp, ev_chain, ev_isN, ev_and, ev_or, ev_ife, ev_call, ev_bi, ev_isi, ev_me, ev_repl, ev_lm, ev_idx, ev_slc, ev_rev, ev_tup, ev_lstF, ev_lstT, ev_dct, es_nil, es_cons, eo_none, eo_some, ss_nil, ss_cons, s_asg, s_asgc, s_par2, s_par3, s_aug, s_sset, s_xpr, s_ifs, s_ret, s_raise, s_try, it_of, it_rng1, eb_none, eb_some, b_ok, b_exc, t_ok, t_exc, r_some, RS.next, bindTg, List.getElem?_cons_zero, List.getElem?_cons_succ, List.set_cons_zero, List.set_cons_succ, ↓reduceIte, dr_i0, dr_i1, dr_i2, dr_i3, hq, hq2, ha, hlt, hln, hat, dr_y1, dr_y2, dr_y3, List.length_cons, List.length_nil, ss_nil]
      · obtain ⟨dr1, e1, e2⟩ := hs (dr.pos + 1) dr.cur hc
        refine ⟨dr1, ?_, e2 (by omega)⟩
        rw [← e1]
        have hlt : evCmp .lt (.lst [.lst (dr.cells.map .int), .int (dr.pos + 1), .int dr.cur, .int dr.seed] :: T) (.int (dr.pos + 1)) (.int dr.cells.length) = some false := by
          show some (decide (_ < _)) = _
          rw [decide_eq_false hp]
        have hln : evBi .len (.lst [.lst (dr.cells.map .int), .int (dr.pos + 1), .int dr.cur, .int dr.seed] :: T) [.lst (dr.cells.map .int)] = some (.int dr.cells.length) := by
          show some (D.int (dr.cells.map D.int).length) = _
          rw [List.length_map]
        have hq : evCmp .eq (.lst dr.L :: T) (.int dr.cur) (.int 0) = some true := by
          show evEq (.lst dr.L :: T) (.int dr.cur) (.int 0) = _
          rw [eqI, hc]; rfl
        have ha : evBin .add (.lst dr.L :: T) (.int dr.pos) (.int 1) = some (.int (dr.pos + 1)) := rfl
        unfold Draw.L at hq ha ⊢
        dsimp only at hq ha ⊢
        rw [s_ifs]
        simp only [cfg_call, cfg_N, ev_var, ev_non, ev_bl, ev_int, ev_str, ev_glb, ev_bin, ev_neg, ev_no, ev_cmp, ev_chain, ev_isN, ev_and, ev_or, ev_ife, ev_call, ev_bi, ev_isi, ev_me, ev_repl, ev_lm, ev_idx, ev_slc, ev_rev, ev_tup, ev_lstF, ev_lstT, ev_dct, es_nil, es_cons, eo_none, eo_some, ss_nil, ss_cons, s_asg, s_asgc, s_par2, s_par3, s_aug, s_sset, s_xpr, s_ifs, s_ret, s_raise, s_try, it_of, it_rng1, eb_none, eb_some, b_ok, b_exc, t_ok, t_exc, r_some, RS.next, bindTg, List.getElem?_cons_zero, List.getElem?_cons_succ, List.set_cons_zero, List.set_cons_succ, ↓reduceIte, dr_i0, dr_i1, dr_i2, dr_i3, hq, ha, hlt, hln, dr_y1, dr_y2, dr_y3, List.length_cons, List.length_nil, ss_nil]
    · refine ⟨dr, ?_, ⟨o1, o2, o3, o4, o5⟩⟩
      have hq : evCmp .eq (.lst dr.L :: T) (.int dr.cur) (.int 0) = some false := by
        show evEq (.lst dr.L :: T) (.int dr.cur) (.int 0) = _
        rw [eqI, decide_eq_false hc]
      unfold Draw.L at hq ⊢
      simp [cfg_call, cfg_N, ev_var, ev_non, ev_bl, ev_int, ev_str, ev_glb, ev_bin, ev_neg, ev_no, ev_cmp, ev_chain, ev_isN, ev_and, ev_or, ev_ife, ev_call, ev_bi, ev_isi, ev_me, ev_repl, ev_lm, ev_idx, ev_slc, ev_rev, ev_tup, ev_lstF, ev_lstT, ev_dct, es_nil, es_cons, eo_none, eo_some, ss_nil, ss_cons, s_asg, s_asgc, s_par2, s_par3, s_aug, s_sset, s_xpr, s_ifs, s_ret, s_raise, s_try, it_of, it_rng1, eb_none, eb_some, b_ok, b_exc, t_ok, t_exc, r_some, RS.next, bindTg, List.getElem?_cons_zero, List.getElem?_cons_succ, List.set_cons_zero, List.set_cons_succ, dr_i2, hq, ss_nil]
  obtain ⟨dr1, e1, p1, p2, p3, p4, p5⟩ := step
  have hm0 : m ≠ 0 := by omega
  refine ⟨dr1.cur.fmod m, ⟨dr1.cells, dr1.pos, dr1.cur / m, dr1.seed⟩, ?_, Int.fmod_nonneg_of_pos _ h0, Int.fmod_lt_of_pos _ h0, ⟨p1, p2, Int.ediv_nonneg p3 (by omega), p4, p5⟩⟩
  refine call_same (d := takeDef) hd rfl rfl ⟨[some (.loc 0), some (.int m), some (.int (dr1.cur.fmod m))], ?_⟩
  unfold takeDef
  refine (ss_go e1).trans ?_
  have hfd : ∀ U : Sto, evBin .fdiv U (.int dr1.cur) (.int m) = some (.int (dr1.cur / m)) := fun U => by
    unfold evBin
    dsimp only
    rw [if_pos ⟨h0, by have := (Nat.log2_lt (n := m.natAbs) (k := 30) (by omega)).mpr (by omega); omega⟩]
  have hmd : ∀ U : Sto, evBin .mod U (.int dr1.cur) (.int m) = some (.int (dr1.cur.fmod m)) := fun U => by
    unfold evBin
    dsimp only
    rw [if_pos hm0]
  unfold Draw.L
  dsimp only
  simp [cfg_call, cfg_N, ev_var, ev_non, ev_bl, ev_int, ev_str, ev_glb, ev_bin, ev_neg, ev_no, ev_cmp, ev_chain, ev_isN, ev_and, ev_or, ev_ife, ev_call, ev_bi, ev_isi, ev_me, ev_repl, ev_lm, ev_idx, ev_slc, ev_rev, ev_tup, ev_lstF, ev_lstT, ev_dct, es_nil, es_cons, eo_none, eo_some, ss_nil, ss_cons, s_asg, s_asgc, s_par2, s_par3, s_aug, s_sset, s_xpr, s_ifs, s_ret, s_raise, s_try, it_of, it_rng1, eb_none, eb_some, b_ok, b_exc, t_ok, t_exc, r_some, RS.next, bindTg, List.getElem?_cons_zero, List.getElem?_cons_succ, List.set_cons_zero, List.set_cons_succ, dr_i2, hfd, hmd, evBi, dr_x2]
/-! ### the first draw -/
def drawDef : Def := ⟨1, 3, (.cons (.asg (.nm 1) (.int 7))
  (.cons (.for_ (.nm 2) (.of (.var 0)) (.cons (.asg (.nm 1) (.bin .mod (.bi .int (.cons (.bin .add (.bin .add (.bin .mul (.var 1) (.int 48271)) (.bin .mod (.bi .abs (.cons (.bi .int (.cons (.var 2) .nil)) .nil)) (.int 65521))) (.int 1)) .nil)) (.int 2147483647)))
  .nil))
  (.cons (.ret (.lst true (.cons (.comp false (.bi .abs (.cons (.bi .int (.cons (.var 2) .nil)) .nil)) (.nm 2) (.of (.var 0)) .none [2]) (.cons (.neg (.int 1)) (.cons (.int 0) (.cons (.var 1) .nil))))))
  .nil)))⟩
theorem draw_ev {i : Nat} (hd : P.defs[i]? = some drawDef) (ns : List Int) (hn : ns.length ≤ 63) : ∃ dr : Draw, callN P M (k + 1) i [.scr ns] [] = .ok (.loc 0) dr.S ∧ dr.ok := by
  have hit : ∀ U : Sto, itOf U (.scr ns) = some ⟨ns.map .int, none⟩ := fun U => rfl
  obtain ⟨e1, S1, h1, sd, e2, h2, h3, h4, h5⟩ := forL_inv (w := ⟨ns.map .int, none⟩) (f := fTurn (cfgN P M k) (.nm 2) (.cons (.asg (.nm 1) (.bin .mod (.bi .int (.cons (.bin .add (.bin .add (.bin .mul (.var 1) (.int 48271)) (.bin .mod (.bi .abs (.cons (.bi .int (.cons (.var 2) .nil)) .nil)) (.int 65521))) (.int 1)) .nil)) (.int 2147483647))) .nil)) rfl
    (fun env S => ∃ (sd : Int) (e2 : Option D), env = [some (.scr ns), some (.int sd), e2] ∧ S = [] ∧ 0 ≤ sd ∧ sd < 2147483647) (ns.map .int) [some (.scr ns), some (.int 7), none] [] ⟨7, none, rfl, rfl, by decide, by decide⟩ (by
      rintro d hd env S ⟨sd, e2, rfl, rfl, h1, h2⟩
      obtain ⟨x, hx, rfl⟩ := List.mem_map.mp hd
      have hm := dr_mul [] sd h1 h2
      have ha : evBi .abs [] [.int x] = some (.int (if x < 0 then -x else x)) := rfl
      have hi : ∀ y, evBi .int [] [.int y] = some (.int y) := fun y => rfl
      have hb : ∀ y z, evBin .add [] (.int y) (.int z) = some (.int (y + z)) := fun y z => rfl
      have hm2 : ∀ y, evBin .mod [] (.int y) (.int 65521) = some (.int (y.fmod 65521)) := fun y => rfl
      generalize (if x < 0 then -x else x) = ax at ha
      refine ⟨[some (.scr ns), some (.int ((sd * 48271 + ax.fmod 65521 + 1).fmod 2147483647)), some (.int x)], [], ?_, _, _, rfl, rfl, Int.fmod_nonneg_of_pos _ (by decide), Int.fmod_lt_of_pos _ (by decide)⟩
      rw [fTurn_of rfl]
      simp only [cfg_call, cfg_N, ev_var, ev_non, ev_bl, ev_int, ev_str, ev_glb, ev_bin, ev_neg, ev_no, ev_cmp, ev_chain, ev_isN, ev_and, ev_or, ev_ife, ev_call, ev_bi, ev_isi, ev_me, ev_repl, ev_lm, ev_idx, ev_slc, ev_rev, ev_tup, ev_lstF, ev_lstT, ev_dct, es_nil, es_cons, eo_none, eo_some, ss_nil, ss_cons, s_asg, s_asgc, s_par2, s_par3, s_aug, s_sset, s_xpr, s_ifs, s_ret, s_raise, s_try, it_of, it_rng1, eb_none, eb_some, b_ok, b_exc, t_ok, t_exc, r_some, RS.next, bindTg, List.getElem?_cons_zero, List.getElem?_cons_succ, List.set_cons_zero, List.set_cons_succ, ↓reduceIte, hm, ha, hi, hb, hm2, dr_mod, ss_nil])
  subst h2 h3
  have hc := comp_al (c := cfgN P M k) (env := [some (.scr ns), some (.int sd), e2]) (S := []) (src := .var 0) (elt := .bi .abs (.cons (.bi .int (.cons (.var 2) .nil)) .nil)) (tg := .nm 2) (own := [2]) (e := D.int) (g := fun x => .int (if x < 0 then -x else x)) (l := ns) (v := .scr ns)
    (by simp [cfg_call, cfg_N, ev_var, ev_non, ev_bl, ev_int, ev_str, ev_glb, ev_bin, ev_neg, ev_no, ev_cmp, ev_chain, ev_isN, ev_and, ev_or, ev_ife, ev_call, ev_bi, ev_isi, ev_me, ev_repl, ev_lm, ev_idx, ev_slc, ev_rev, ev_tup, ev_lstF, ev_lstT, ev_dct, es_nil, es_cons, eo_none, eo_some, ss_nil, ss_cons, s_asg, s_asgc, s_par2, s_par3, s_aug, s_sset, s_xpr, s_ifs, s_ret, s_raise, s_try, it_of, it_rng1, eb_none, eb_some, b_ok, b_exc, t_ok, t_exc, r_some, RS.next, bindTg, List.getElem?_cons_zero, List.getElem?_cons_succ, List.set_cons_zero, List.set_cons_succ, ss_nil]) rfl (le_big (by omega)) (fun x hx => ⟨_, rfl, by simp [cfg_call, cfg_N, ev_var, ev_non, ev_bl, ev_int, ev_str, ev_glb, ev_bin, ev_neg, ev_no, ev_cmp, ev_chain, ev_isN, ev_and, ev_or, ev_ife, ev_call, ev_bi, ev_isi, ev_me, ev_repl, ev_lm, ev_idx, ev_slc, ev_rev, ev_tup, ev_lstF, ev_lstT, ev_dct, es_nil, es_cons, eo_none, eo_some, ss_nil, ss_cons, s_asg, s_asgc, s_par2, s_par3, s_aug, s_sset, s_xpr, s_ifs, s_ret, s_raise, s_try, it_of, it_rng1, eb_none, eb_some, b_ok, b_exc, t_ok, t_exc, r_some, RS.next, bindTg, List.getElem?_cons_zero, List.getElem?_cons_succ, List.set_cons_zero, List.set_cons_succ, wipeE, evBi]⟩)
  refine ⟨⟨ns.map fun x => if x < 0 then -x else x, -1, 0, sd⟩, ?_, ⟨fun c hc => ?_, by show (-1 : Int) ≤ -1; decide, by show (0 : Int) ≤ 0; decide, h4, h5⟩⟩
  · refine (call_run M k i drawDef [.scr ns] [] hd rfl).trans ?_
    have hb : evSs (cfgN P M k) drawDef.body (startE drawDef [.scr ns]) [] = .ok (.rt (.loc 0)) [some (.scr ns), some (.int sd), e2] [.lst (Draw.L ⟨ns.map fun x => if x < 0 then -x else x, -1, 0, sd⟩)] := by
      unfold drawDef
      refine (ss_go (env1 := [some (.scr ns), some (.int 7), none]) (S1 := []) (by simp [cfg_call, cfg_N, ev_var, ev_non, ev_bl, ev_int, ev_str, ev_glb, ev_bin, ev_neg, ev_no, ev_cmp, ev_chain, ev_isN, ev_and, ev_or, ev_ife, ev_call, ev_bi, ev_isi, ev_me, ev_repl, ev_lm, ev_idx, ev_slc, ev_rev, ev_tup, ev_lstF, ev_lstT, ev_dct, es_nil, es_cons, eo_none, eo_some, ss_nil, ss_cons, s_asg, s_asgc, s_par2, s_par3, s_aug, s_sset, s_xpr, s_ifs, s_ret, s_raise, s_try, it_of, it_rng1, eb_none, eb_some, b_ok, b_exc, t_ok, t_exc, r_some, RS.next, bindTg, List.getElem?_cons_zero, List.getElem?_cons_succ, List.set_cons_zero, List.set_cons_succ, startE])).trans ((ss_go (env1 := [some (.scr ns), some (.int sd), e2]) (S1 := []) ?_).trans ?_)
      · rw [s_for]
        simp only [cfg_call, cfg_N, ev_var, ev_non, ev_bl, ev_int, ev_str, ev_glb, ev_bin, ev_neg, ev_no, ev_cmp, ev_chain, ev_isN, ev_and, ev_or, ev_ife, ev_call, ev_bi, ev_isi, ev_me, ev_repl, ev_lm, ev_idx, ev_slc, ev_rev, ev_tup, ev_lstF, ev_lstT, ev_dct, es_nil, es_cons, eo_none, eo_some, ss_nil, ss_cons, s_asg, s_asgc, s_par2, s_par3, s_aug, s_sset, s_xpr, s_ifs, s_ret, s_raise, s_try, it_of, it_rng1, eb_none, eb_some, b_ok, b_exc, t_ok, t_exc, r_some, RS.next, bindTg, List.getElem?_cons_zero, List.getElem?_cons_succ, List.set_cons_zero, List.set_cons_succ, ↓reduceIte, hit]
        exact h1
      · simp [cfg_call, cfg_N, ev_var, ev_non, ev_bl, ev_int, ev_str, ev_glb, ev_bin, ev_neg, ev_no, ev_cmp, ev_chain, ev_isN, ev_and, ev_or, ev_ife, ev_call, ev_bi, ev_isi, ev_me, ev_repl, ev_lm, ev_idx, ev_slc, ev_rev, ev_tup, ev_lstF, ev_lstT, ev_dct, es_nil, es_cons, eo_none, eo_some, ss_nil, ss_cons, s_asg, s_asgc, s_par2, s_par3, s_aug, s_sset, s_xpr, s_ifs, s_ret, s_raise, s_try, it_of, it_rng1, eb_none, eb_some, b_ok, b_exc, t_ok, t_exc, r_some, RS.next, bindTg, List.getElem?_cons_zero, List.getElem?_cons_succ, List.set_cons_zero, List.set_cons_succ, hc, evNeg, sizeLine_eq, Draw.L, Function.comp_def]
    rw [hb]
    rfl
  · obtain ⟨x, hx, rfl⟩ := List.mem_map.mp hc
    split <;> omega
end
end MP

set_option linter.all false
set_option maxRecDepth 100000
set_option maxHeartbeats 1000000
/-! MiniPy, plain laws 5: loops that may return. -/
namespace MP
open PySem
/-- a loop whose turn goes on with a found value, or returns -/
theorem forL_op {α β : Type} {w : Walkd} {f : D → MP.Env → Sto → RS} {e : α → D} {g : α → Option β} (hk : w.keep = none) (I : List β → MP.Env → Sto → Prop) (rv : D) (Q : Sto → Prop) : ∀ (l : List α) (done : List β) (env : MP.Env) (S : Sto), I done env S →
    (∀ (dn : List β) (a : α), a ∈ l → dn.length ≤ done.length + l.length → ∀ env S, I dn env S → match g a with
      | some b => ∃ e1 S1, f (e a) env S = .ok .nx e1 S1 ∧ I (dn ++ [b]) e1 S1
      | none => ∃ e1 S1, f (e a) env S = .ok (.rt rv) e1 S1 ∧ Q S1) →
    match l.mapM g with
      | some bs => ∃ e1 S1, forL w f (l.map e) env S = .ok .nx e1 S1 ∧ I (done ++ bs) e1 S1
      | none => ∃ e1 S1, forL w f (l.map e) env S = .ok (.rt rv) e1 S1 ∧ Q S1
  | [], done, env, S, h, _ => ⟨env, S, by rw [List.map_nil, forL, if_pos (by unfold Walkd.still; rw [hk])], by simpa using h⟩
  | a :: l, done, env, S, h, hf => by
    have h1 := hf done a List.mem_cons_self (by omega) env S h
    rw [List.mapM_cons]
    cases q : g a with
    | none =>
      rw [q] at h1
      obtain ⟨e1, S1, h1, h2⟩ := h1
      refine ⟨e1, S1, ?_, h2⟩
      rw [List.map_cons, forL, if_pos (by unfold Walkd.still; rw [hk]), h1]
    | some b =>
      rw [q] at h1
      obtain ⟨e1, S1, h1, h2⟩ := h1
      have ih := forL_op hk I rv Q l (done ++ [b]) e1 S1 h2 fun dn x hx hl => hf dn x (List.mem_cons_of_mem _ hx) (by simp only [List.length_append, List.length_cons, List.length_nil] at hl ⊢; omega)
      cases q2 : l.mapM g with
      | none =>
        rw [q2] at ih
        obtain ⟨e2, S2, h3, h4⟩ := ih
        refine ⟨e2, S2, ?_, h4⟩
        rw [List.map_cons, forL, if_pos (by unfold Walkd.still; rw [hk]), h1]
        exact h3
      | some bs =>
        rw [q2] at ih
        obtain ⟨e2, S2, h3, h4⟩ := ih
        refine ⟨e2, S2, ?_, by rw [List.append_assoc] at h4; exact h4⟩
        rw [List.map_cons, forL, if_pos (by unfold Walkd.still; rw [hk]), h1]
        exact h3
end MP

set_option linter.all false
set_option maxRecDepth 100000
set_option maxHeartbeats 0
/-! ### the small texts of k54 (printed) -/
namespace K54
open PySem PySem.Spec PyProof.Rows L2 MP
abbrev PW : Program := PySem.Challenge.pw_oddsmith_k54_whole_texts_of_answers
def top (i : Nat) : Stmt := PW.main.body.getD i (.Pass ⟨0, 0, 0, 0⟩)
/-- is_whole: 0=value -/
def f0 : Def := ⟨1, 1, (.cons (.ret (.and (.isi (.var 0) .int) (.no (.isi (.var 0) .bool))))
  .nil)⟩
def n0 : List Str := ["value"]
def e0 : Ent := ⟨"is_whole", top 4, f0, n0, ["value"]⟩
/-- common: 0=a 1=b -/
def f1 : Def := ⟨2, 2, (.cons (.par2 0 1 (.bi .abs (.cons (.var 0) .nil)) (.bi .abs (.cons (.var 1) .nil)))
  (.cons (.whl (.cmp .ne (.var 1) (.int 0)) (.cons (.par2 0 1 (.var 1) (.bin .mod (.var 0) (.var 1)))
  .nil))
  (.cons (.ret (.var 0))
  .nil)))⟩
def n1 : List Str := ["a", "b"]
def e1 : Ent := ⟨"common", top 5, f1, n1, ["a", "b"]⟩
/-- lowest: 0=n 1=d 2=g -/
def f2 : Def := ⟨2, 3, (.cons (.asg (.nm 2) (.call 1 (.cons (.var 0) (.cons (.var 1) .nil))))
  (.cons (.ifs (.cmp .lt (.var 1) (.int 0)) (.cons (.asg (.nm 2) (.neg (.var 2)))
  .nil) .nil)
  (.cons (.ret (.tup (.cons (.bin .fdiv (.var 0) (.var 2)) (.cons (.bin .fdiv (.var 1) (.var 2)) .nil))))
  .nil)))⟩
def n2 : List Str := ["n", "d", "g"]
def e2 : Ent := ⟨"lowest", top 6, f2, n2, ["n", "d"]⟩
/-- is_ratio: 0=value -/
def f3 : Def := ⟨1, 1, (.cons (.ifs (.or (.no (.isi (.var 0) .tup)) (.or (.cmp .ne (.bi .len (.cons (.var 0) .nil)) (.int 2)) (.or (.no (.call 0 (.cons (.idx (.var 0) (.int 0)) .nil))) (.no (.call 0 (.cons (.idx (.var 0) (.int 1)) .nil)))))) (.cons (.ret (.bl false))
  .nil) .nil)
  (.cons (.ret (.and (.cmp .gt (.idx (.var 0) (.int 1)) (.int 0)) (.cmp .eq (.call 1 (.cons (.idx (.var 0) (.int 0)) (.cons (.idx (.var 0) (.int 1)) .nil))) (.int 1))))
  .nil))⟩
def n3 : List Str := ["value"]
def e3 : Ent := ⟨"is_ratio", top 7, f3, n3, ["value"]⟩
/-- is_short: 0=value 1=most 2=_ -/
def f4 : Def := ⟨1, 3, (.cons (.ifs (.no (.call 0 (.cons (.var 0) .nil))) (.cons (.ret (.bl false))
  .nil) .nil)
  (.cons (.asg (.nm 1) (.bin .pow (.int 10) (.int 32)))
  (.cons (.ifs (.chain .lt .lt (.neg (.var 1)) (.var 0) (.var 1)) (.cons (.ret (.bl true))
  .nil) .nil)
  (.cons (.for_ (.nm 2) (.rng1 (.bin .sub (.bin .fdiv (.glb 1) (.int 32)) (.int 1))) (.cons (.aug 1 .mul (.bin .pow (.int 10) (.int 32)))
  .nil))
  (.cons (.ret (.chain .lt .lt (.neg (.var 1)) (.var 0) (.var 1)))
  .nil)))))⟩
def n4 : List Str := ["value", "most", "_"]
def e4 : Ent := ⟨"is_short", top 11, f4, n4, ["value"]⟩
/-- fraction_text: 0=fraction -/
def f5 : Def := ⟨1, 1, (.cons (.ifs (.or (.no (.call 4 (.cons (.idx (.var 0) (.int 0)) .nil))) (.no (.call 4 (.cons (.idx (.var 0) (.int 1)) .nil)))) (.cons (.raise 0 (.str "no text"))
  .nil) .nil)
  (.cons (.ret (.ife (.cmp .eq (.idx (.var 0) (.int 1)) (.int 1)) (.bi .str (.cons (.idx (.var 0) (.int 0)) .nil)) (.bin .add (.bin .add (.bi .str (.cons (.idx (.var 0) (.int 0)) .nil)) (.str "/")) (.bi .str (.cons (.idx (.var 0) (.int 1)) .nil)))))
  .nil))⟩
def n5 : List Str := ["fraction"]
def e5 : Ent := ⟨"fraction_text", top 12, f5, n5, ["fraction"]⟩
/-- are_numbers: 0=value 1=item -/
def f6 : Def := ⟨1, 2, (.cons (.ret (.and (.isi (.var 0) .tup) (.bi .all (.cons (.comp false (.and (.call 0 (.cons (.var 1) .nil)) (.chain .le .le (.int 0) (.var 1) (.glb 2))) (.nm 1) (.of (.var 0)) .none [1]) .nil))))
  .nil)⟩
def n6 : List Str := ["value", "item"]
def e6 : Ent := ⟨"are_numbers", top 16, f6, n6, ["value"]⟩
/-- is_value: 0=value -/
def f7 : Def := ⟨1, 1, (.cons (.ret (.and (.call 3 (.cons (.var 0) .nil)) (.and (.cmp .ge (.idx (.var 0) (.int 0)) (.int 0)) (.call 4 (.cons (.bi .max (.cons (.var 0) .nil)) .nil)))))
  .nil)⟩
def n7 : List Str := ["value"]
def e7 : Ent := ⟨"is_value", top 17, f7, n7, ["value"]⟩
/-- are_values: 0=value 1=item -/
def f8 : Def := ⟨1, 2, (.cons (.ifs (.no (.isi (.var 0) .tup)) (.cons (.ret (.bl false))
  .nil) .nil)
  (.cons (.ret (.bi .all (.cons (.comp false (.or (.isN false (.var 1)) (.call 7 (.cons (.var 1) .nil))) (.nm 1) (.of (.var 0)) .none [1]) .nil)))
  .nil))⟩
def n8 : List Str := ["value", "item"]
def e8 : Ent := ⟨"are_values", top 18, f8, n8, ["value"]⟩
/-- has_paper_form: 0=value 1=part -/
def f9 : Def := ⟨1, 2, (.cons (.ifs (.isN false (.var 0)) (.cons (.ret (.bl true))
  .nil) .nil)
  (.cons (.ifs (.or (.no (.isi (.var 0) .tup)) (.or (.cmp .ne (.bi .len (.cons (.var 0) .nil)) (.int 4)) (.or (.no (.isi (.idx (.var 0) (.int 0)) .str)) (.cmp .notin (.idx (.var 0) (.int 0)) (.glb 3))))) (.cons (.ret (.bl false))
  .nil) .nil)
  (.cons (.ifs (.no (.bi .all (.cons (.comp false (.ife (.isi (.var 1) .tup) (.cmp .gt (.bi .len (.cons (.var 1) .nil)) (.int 0)) (.bl false)) (.nm 1) (.of (.slc (.var 0) (.some (.int 1)) .none)) .none [1]) .nil))) (.cons (.ret (.bl false))
  .nil) .nil)
  (.cons (.ret (.and (.call 8 (.cons (.idx (.var 0) (.int 1)) .nil)) (.and (.call 6 (.cons (.idx (.var 0) (.int 2)) .nil)) (.call 6 (.cons (.idx (.var 0) (.int 3)) .nil)))))
  .nil))))⟩
def n9 : List Str := ["value", "part"]
def e9 : Ent := ⟨"has_paper_form", top 19, f9, n9, ["value"]⟩
/-- has_answer_form: 0=value 1=part -/
def f10 : Def := ⟨1, 2, (.cons (.ifs (.or (.no (.isi (.var 0) .tup)) (.or (.cmp .ne (.bi .len (.cons (.var 0) .nil)) (.int 2)) (.no (.isi (.idx (.var 0) (.int 0)) .bool)))) (.cons (.ret (.bl false))
  .nil) .nil)
  (.cons (.ifs (.or (.no (.isi (.idx (.var 0) (.int 1)) .tup)) (.no (.bi .all (.cons (.comp false (.and (.isi (.var 1) .tup) (.cmp .eq (.bi .len (.cons (.var 1) .nil)) (.int 2))) (.nm 1) (.of (.idx (.var 0) (.int 1))) .none [1]) .nil)))) (.cons (.ret (.bl false))
  .nil) .nil)
  (.cons (.ret (.bi .all (.cons (.comp false (.and (.call 6 (.cons (.idx (.var 1) (.int 0)) .nil)) (.call 9 (.cons (.idx (.var 1) (.int 1)) .nil))) (.nm 1) (.of (.idx (.var 0) (.int 1))) .none [1]) .nil)))
  .nil)))⟩
def n10 : List Str := ["value", "part"]
def e10 : Ent := ⟨"has_answer_form", top 20, f10, n10, ["value"]⟩
/-- numbers_text: 0=numbers 1=item -/
def f11 : Def := ⟨1, 2, (.cons (.ret (.ife (.cmp .gt (.bi .len (.cons (.var 0) .nil)) (.int 0)) (.me .join (.str ",") (.cons (.comp false (.bi .str (.cons (.var 1) .nil)) (.nm 1) (.of (.var 0)) .none [1]) .nil)) (.str "-")))
  .nil)⟩
def n11 : List Str := ["numbers", "item"]
def e11 : Ent := ⟨"numbers_text", top 21, f11, n11, ["numbers"]⟩
/-- values_text: 0=values 1=item -/
def f12 : Def := ⟨1, 2, (.cons (.ret (.me .join (.str ",") (.cons (.comp false (.ife (.isN false (.var 1)) (.str "-") (.call 5 (.cons (.var 1) .nil))) (.nm 1) (.of (.var 0)) .none [1]) .nil)))
  .nil)⟩
def n12 : List Str := ["values", "item"]
def e12 : Ent := ⟨"values_text", top 22, f12, n12, ["values"]⟩
/-- paper_text: 0=paper -/
def f13 : Def := ⟨1, 1, (.cons (.ifs (.isN false (.var 0)) (.cons (.ret (.str "-"))
  .nil) .nil)
  (.cons (.ret (.me .join (.str ":") (.cons (.lst false (.cons (.idx (.glb 3) (.idx (.var 0) (.int 0))) (.cons (.call 12 (.cons (.idx (.var 0) (.int 1)) .nil)) (.cons (.call 11 (.cons (.idx (.var 0) (.int 2)) .nil)) (.cons (.call 11 (.cons (.idx (.var 0) (.int 3)) .nil)) .nil))))) .nil)))
  .nil))⟩
def n13 : List Str := ["paper"]
def e13 : Ent := ⟨"paper_text", top 23, f13, n13, ["paper"]⟩
/-- plain_answer: 0=answer 1=parts 2=states 3=paper -/
def f14 : Def := ⟨1, 4, (.cons (.asgc 1 (.comp false (.bin .add (.bin .add (.call 11 (.cons (.var 2) .nil)) (.str " ")) (.call 13 (.cons (.var 3) .nil))) (.tup [2, 3]) (.of (.idx (.var 0) (.int 1))) .none [2, 3]))
  (.cons (.ret (.me .join (.str "; ") (.cons (.bin .add (.lst false (.cons (.ife (.idx (.var 0) (.int 0)) (.str "yes") (.str "no")) .nil)) (.var 1)) .nil)))
  .nil))⟩
def n14 : List Str := ["answer", "parts", "states", "paper"]
def e14 : Ent := ⟨"plain_answer", top 24, f14, n14, ["answer"]⟩
/-- write_answer: 0=answer -/
def f15 : Def := ⟨1, 1, (.cons (.ifs (.no (.call 10 (.cons (.var 0) .nil))) (.cons (.raise 0 (.str "no answer"))
  .nil) .nil)
  (.cons (.ret (.call 14 (.cons (.var 0) .nil)))
  .nil))⟩
def n15 : List Str := ["answer"]
def e15 : Ent := ⟨"write_answer", top 25, f15, n15, ["answer"]⟩
/-- read_digits: 0=text 1=sign -/
def f16 : Def := ⟨1, 2, (.cons (.ifs (.or (.no (.chain .le .le (.int 1) (.bi .len (.cons (.var 0) .nil)) (.glb 1))) (.no (.bi .all (.cons (.comp false (.cmp .isin (.var 1) (.glb 0)) (.nm 1) (.of (.var 0)) .none [1]) .nil)))) (.cons (.raise 0 (.str "no number"))
  .nil) .nil)
  (.cons (.ifs (.and (.cmp .eq (.idx (.var 0) (.int 0)) (.str "0")) (.cmp .ne (.var 0) (.str "0"))) (.cons (.raise 0 (.str "no number"))
  .nil) .nil)
  (.cons (.ret (.bi .int (.cons (.var 0) .nil)))
  .nil)))⟩
def n16 : List Str := ["text", "sign"]
def e16 : Ent := ⟨"read_digits", top 26, f16, n16, ["text"]⟩
/-- read_numbers: 0=text 1=part -/
def f17 : Def := ⟨1, 2, (.cons (.ret (.ife (.cmp .eq (.var 0) (.str "-")) (.tup .nil) (.bi .tuple (.cons (.comp false (.call 16 (.cons (.var 1) .nil)) (.nm 1) (.of (.me .split (.var 0) (.cons (.str ",") .nil))) .none [1]) .nil))))
  .nil)⟩
def n17 : List Str := ["text", "part"]
def e17 : Ent := ⟨"read_numbers", top 27, f17, n17, ["text"]⟩
/-- read_value: 0=text 1=found 2=above 3=slash 4=below -/
def f18 : Def := ⟨1, 5, (.cons (.ifs (.cmp .eq (.var 0) (.str "-")) (.cons (.ret .non)
  .nil) .nil)
  (.cons (.asg (.tup [2, 3, 4]) (.me .partition (.var 0) (.cons (.str "/") .nil)))
  (.cons (.asg (.nm 1) (.tup (.cons (.call 16 (.cons (.var 2) .nil)) (.cons (.ife (.cmp .ne (.var 3) (.str "")) (.call 16 (.cons (.var 4) .nil)) (.int 1)) .nil))))
  (.cons (.ifs (.or (.cmp .eq (.idx (.var 1) (.int 1)) (.int 0)) (.or (.cmp .ne (.call 2 (.cons (.idx (.var 1) (.int 0)) (.cons (.idx (.var 1) (.int 1)) .nil))) (.var 1)) (.and (.cmp .ne (.var 3) (.str "")) (.cmp .eq (.idx (.var 1) (.int 1)) (.int 1))))) (.cons (.raise 0 (.str "no fraction"))
  .nil) .nil)
  (.cons (.ret (.var 1))
  .nil)))))⟩
def n18 : List Str := ["text", "found", "above", "slash", "below"]
def e18 : Ent := ⟨"read_value", top 28, f18, n18, ["text"]⟩
/-- read_paper: 0=text 1=parts 2=words 3=values 4=word 5=part -/
def f19 : Def := ⟨1, 6, (.cons (.ifs (.cmp .eq (.var 0) (.str "-")) (.cons (.ret .non)
  .nil) .nil)
  (.cons (.asg (.nm 1) (.me .split (.var 0) (.cons (.str ":") .nil)))
  (.cons (.asgc 2 (.comp false (.var 4) (.nm 4) (.keys 3) (.some (.cmp .eq (.idx (.glb 3) (.var 4)) (.idx (.var 1) (.int 0)))) [4]))
  (.cons (.ifs (.or (.cmp .ne (.bi .len (.cons (.var 1) .nil)) (.int 4)) (.cmp .eq (.bi .len (.cons (.var 2) .nil)) (.int 0))) (.cons (.raise 0 (.str "no paper"))
  .nil) .nil)
  (.cons (.asg (.nm 3) (.bi .tuple (.cons (.comp false (.call 18 (.cons (.var 5) .nil)) (.nm 5) (.of (.me .split (.idx (.var 1) (.int 1)) (.cons (.str ",") .nil))) .none [5]) .nil)))
  (.cons (.ret (.tup (.cons (.idx (.var 2) (.int 0)) (.cons (.var 3) (.cons (.call 17 (.cons (.idx (.var 1) (.int 2)) .nil)) (.cons (.call 17 (.cons (.idx (.var 1) (.int 3)) .nil)) .nil))))))
  .nil))))))⟩
def n19 : List Str := ["text", "parts", "words", "values", "word", "part"]
def e19 : Ent := ⟨"read_paper", top 29, f19, n19, ["text"]⟩
/-- read_part: 0=text 1=states 2=space 3=paper -/
def f20 : Def := ⟨1, 4, (.cons (.asg (.tup [1, 2, 3]) (.me .partition (.var 0) (.cons (.str " ") .nil)))
  (.cons (.ifs (.cmp .eq (.var 2) (.str "")) (.cons (.raise 0 (.str "no part"))
  .nil) .nil)
  (.cons (.ret (.tup (.cons (.call 17 (.cons (.var 1) .nil)) (.cons (.call 19 (.cons (.var 3) .nil)) .nil))))
  .nil)))⟩
def n20 : List Str := ["text", "states", "space", "paper"]
def e20 : Ent := ⟨"read_part", top 30, f20, n20, ["text"]⟩
/-- read_answer: 0=text 1=parts 2=found 3=part -/
def f21 : Def := ⟨1, 4, (.cons (.asg (.nm 1) (.ife (.isi (.var 0) .str) (.me .split (.var 0) (.cons (.str "; ") .nil)) (.lst false (.cons (.str "") .nil))))
  (.cons (.ifs (.cmp .notin (.idx (.var 1) (.int 0)) (.tup (.cons (.str "yes") (.cons (.str "no") .nil)))) (.cons (.raise 0 (.str "no answer"))
  .nil) .nil)
  (.cons (.asg (.nm 2) (.tup (.cons (.cmp .eq (.idx (.var 1) (.int 0)) (.str "yes")) (.cons (.bi .tuple (.cons (.comp false (.call 20 (.cons (.var 3) .nil)) (.nm 3) (.of (.slc (.var 1) (.some (.int 1)) .none)) .none [3]) .nil)) .nil))))
  (.cons (.ifs (.no (.call 10 (.cons (.var 2) .nil))) (.cons (.raise 0 (.str "no answer"))
  .nil) .nil)
  (.cons (.ret (.var 2))
  .nil)))))⟩
def n21 : List Str := ["text", "parts", "found", "part"]
def e21 : Ent := ⟨"read_answer", top 31, f21, n21, ["text"]⟩
/-- _law_draw: 0=script 1=seed 2=cell -/
def f22 : Def := ⟨1, 3, (.cons (.asg (.nm 1) (.int 7))
  (.cons (.for_ (.nm 2) (.of (.var 0)) (.cons (.asg (.nm 1) (.bin .mod (.bi .int (.cons (.bin .add (.bin .add (.bin .mul (.var 1) (.int 48271)) (.bin .mod (.bi .abs (.cons (.bi .int (.cons (.var 2) .nil)) .nil)) (.int 65521))) (.int 1)) .nil)) (.int 2147483647)))
  .nil))
  (.cons (.ret (.lst true (.cons (.comp false (.bi .abs (.cons (.bi .int (.cons (.var 2) .nil)) .nil)) (.nm 2) (.of (.var 0)) .none [2]) (.cons (.neg (.int 1)) (.cons (.int 0) (.cons (.var 1) .nil))))))
  .nil)))⟩
def n22 : List Str := ["script", "seed", "cell"]
def e22 : Ent := ⟨"_law_draw", top 33, f22, n22, ["script"]⟩
/-- _law_take: 0=draw 1=many 2=found -/
def f23 : Def := ⟨2, 3, (.cons (.ifs (.cmp .eq (.idx (.var 0) (.int 2)) (.int 0)) (.cons (.sset (.var 0) (.int 1) (.bin .add (.idx (.var 0) (.int 1)) (.int 1)))
  (.cons (.ifs (.cmp .lt (.idx (.var 0) (.int 1)) (.bi .len (.cons (.idx (.var 0) (.int 0)) .nil))) (.cons (.sset (.var 0) (.int 2) (.idx (.idx (.var 0) (.int 0)) (.idx (.var 0) (.int 1))))
  .nil) .nil)
  (.cons (.ifs (.cmp .eq (.idx (.var 0) (.int 2)) (.int 0)) (.cons (.sset (.var 0) (.int 3) (.bin .mod (.bi .int (.cons (.bin .add (.bin .mul (.idx (.var 0) (.int 3)) (.int 48271)) (.int 11)) .nil)) (.int 2147483647)))
  (.cons (.sset (.var 0) (.int 2) (.idx (.var 0) (.int 3)))
  .nil)) .nil)
  .nil))) .nil)
  (.cons (.asg (.nm 2) (.bin .mod (.bi .int (.cons (.idx (.var 0) (.int 2)) .nil)) (.var 1)))
  (.cons (.sset (.var 0) (.int 2) (.bin .fdiv (.idx (.var 0) (.int 2)) (.var 1)))
  (.cons (.ret (.var 2))
  .nil))))⟩
def n23 : List Str := ["draw", "many", "found"]
def e23 : Ent := ⟨"_law_take", top 34, f23, n23, ["draw", "many"]⟩
/-- _law_says: 0=value 1=due -/
def f24 : Def := ⟨2, 2, (.cons (.ret (.and (.isi (.var 0) .bool) (.cmp .eq (.var 0) (.var 1))))
  .nil)⟩
def n24 : List Str := ["value", "due"]
def e24 : Ent := ⟨"_law_says", top 35, f24, n24, ["value", "due"]⟩
/-- _law_numbers_text: 0=numbers 1=item -/
def f25 : Def := ⟨1, 2, (.cons (.ret (.ife (.cmp .ne (.var 0) (.tup .nil)) (.me .join (.str ",") (.cons (.comp false (.bi .str (.cons (.var 1) .nil)) (.nm 1) (.of (.var 0)) .none [1]) .nil)) (.str "-")))
  .nil)⟩
def n25 : List Str := ["numbers", "item"]
def e25 : Ent := ⟨"_law_numbers_text", top 36, f25, n25, ["numbers"]⟩
/-- _law_answer_text: 0=answer 1=found 2=states 3=paper 4=text 5=values 6=item -/
def f26 : Def := ⟨1, 7, (.cons (.asg (.nm 1) (.lst true (.cons (.ife (.idx (.var 0) (.int 0)) (.str "yes") (.str "no")) .nil)))
  (.cons (.for_ (.tup [2, 3]) (.of (.idx (.var 0) (.int 1))) (.cons (.asg (.nm 4) (.str "-"))
  (.cons (.ifs (.isN true (.var 3)) (.cons (.asgc 5 (.comp false (.ife (.isN false (.var 6)) (.str "-") (.bin .add (.bi .str (.cons (.idx (.var 6) (.int 0)) .nil)) (.ife (.cmp .gt (.idx (.var 6) (.int 1)) (.int 1)) (.bin .add (.str "/") (.bi .str (.cons (.idx (.var 6) (.int 1)) .nil))) (.str "")))) (.nm 6) (.of (.idx (.var 3) (.int 1))) .none [6]))
  (.cons (.asg (.nm 4) (.bin .add (.bin .add (.bin .add (.bin .add (.bin .add (.bin .add (.repl (.var 3) 0 " " "") (.str ":")) (.me .join (.str ",") (.cons (.var 5) .nil))) (.str ":")) (.call 25 (.cons (.idx (.var 3) (.int 2)) .nil))) (.str ":")) (.call 25 (.cons (.idx (.var 3) (.int 3)) .nil))))
  .nil)) .nil)
  (.cons (.xpr (.lm .append (.var 1) (.cons (.bin .add (.bin .add (.call 25 (.cons (.var 2) .nil)) (.str " ")) (.var 4)) .nil)))
  .nil))))
  (.cons (.ret (.me .join (.str "; ") (.cons (.var 1) .nil)))
  .nil)))⟩
def n26 : List Str := ["answer", "found", "states", "paper", "text", "values", "item"]
def e26 : Ent := ⟨"_law_answer_text", top 37, f26, n26, ["answer"]⟩
/-- _law_lowest: 0=n 1=d 2=a 3=b -/
def f27 : Def := ⟨2, 4, (.cons (.par2 2 3 (.var 0) (.var 1))
  (.cons (.whl (.cmp .ne (.var 3) (.int 0)) (.cons (.par2 2 3 (.var 3) (.bin .mod (.bi .int (.cons (.var 2) .nil)) (.var 3)))
  .nil))
  (.cons (.ret (.ife (.cmp .gt (.var 2) (.int 0)) (.tup (.cons (.bin .fdiv (.var 0) (.var 2)) (.cons (.bin .fdiv (.var 1) (.var 2)) .nil))) (.tup (.cons (.int 0) (.cons (.int 1) .nil)))))
  .nil)))⟩
def n27 : List Str := ["n", "d", "a", "b"]
def e27 : Ent := ⟨"_law_lowest", top 38, f27, n27, ["n", "d"]⟩
/-- _law_numbers: 0=draw 1=k -/
def f28 : Def := ⟨1, 2, (.cons (.ret (.bi .tuple (.cons (.comp false (.call 23 (.cons (.var 0) (.cons (.idx (.lst false (.cons (.int 4) (.cons (.int 1000) .nil))) (.call 23 (.cons (.var 0) (.cons (.int 2) .nil)))) .nil))) (.nm 1) (.rng1 (.call 23 (.cons (.var 0) (.cons (.int 4) .nil)))) .none [1]) .nil)))
  .nil)⟩
def n28 : List Str := ["draw", "k"]
def e28 : Ent := ⟨"_law_numbers", top 39, f28, n28, ["draw"]⟩
/-- _law_answer: 0=draw 1=parts 2=turn 3=values 4=paper 5=k -/
def f29 : Def := ⟨1, 6, (.cons (.asg (.nm 1) (.lst true .nil))
  (.cons (.for_ (.nm 2) (.rng1 (.call 23 (.cons (.var 0) (.cons (.int 4) .nil)))) (.cons (.asg (.nm 3) (.bi .tuple (.cons (.comp false (.ife (.cmp .eq (.call 23 (.cons (.var 0) (.cons (.int 5) .nil))) (.int 0)) .non (.call 27 (.cons (.call 23 (.cons (.var 0) (.cons (.int 9) .nil))) (.cons (.bin .add (.int 1) (.call 23 (.cons (.var 0) (.cons (.int 9) .nil)))) .nil)))) (.nm 5) (.rng1 (.bin .add (.int 1) (.call 23 (.cons (.var 0) (.cons (.int 3) .nil))))) .none [5]) .nil)))
  (.cons (.asg (.nm 4) (.tup (.cons (.idx (.lst false (.cons (.str "most") (.cons (.str "least") (.cons (.str "gain most") (.cons (.str "gain least") .nil))))) (.call 23 (.cons (.var 0) (.cons (.int 4) .nil)))) (.cons (.var 3) (.cons (.bin .add (.tup (.cons (.int 0) .nil)) (.call 28 (.cons (.var 0) .nil))) (.cons (.bin .add (.tup (.cons (.int 1) .nil)) (.call 28 (.cons (.var 0) .nil))) .nil))))))
  (.cons (.xpr (.lm .append (.var 1) (.cons (.tup (.cons (.call 28 (.cons (.var 0) .nil)) (.cons (.ife (.cmp .gt (.call 23 (.cons (.var 0) (.cons (.int 4) .nil))) (.int 0)) (.var 4) .non) .nil))) .nil)))
  .nil))))
  (.cons (.ret (.tup (.cons (.cmp .eq (.call 23 (.cons (.var 0) (.cons (.int 2) .nil))) (.int 0)) (.cons (.bi .tuple (.cons (.var 1) .nil)) .nil))))
  .nil)))⟩
def n29 : List Str := ["draw", "parts", "turn", "values", "paper", "k"]
def e29 : Ent := ⟨"_law_answer", top 40, f29, n29, ["draw"]⟩
/-- _law_int: 0=item 1=low 2=top -/
def f30 : Def := ⟨3, 3, (.cons (.ret (.and (.isi (.var 0) .int) (.and (.no (.isi (.var 0) .bool)) (.chain .le .lt (.var 1) (.var 0) (.var 2)))))
  .nil)⟩
def n30 : List Str := ["item", "low", "top"]
def e30 : Ent := ⟨"_law_int", top 41, f30, n30, ["item", "low", "top"]⟩
/-- _law_is_value: 0=item 1=top -/
def f31 : Def := ⟨1, 2, (.cons (.ifs (.isN false (.var 0)) (.cons (.ret (.bl true))
  .nil) .nil)
  (.cons (.asg (.nm 1) (.bi .int (.cons (.bin .add (.str "1") (.bin .mul (.str "0") (.int 4000))) .nil)))
  (.cons (.ifs (.or (.no (.isi (.var 0) .tup)) (.or (.cmp .ne (.bi .len (.cons (.var 0) .nil)) (.int 2)) (.or (.no (.call 30 (.cons (.idx (.var 0) (.int 0)) (.cons (.int 0) (.cons (.var 1) .nil))))) (.no (.call 30 (.cons (.idx (.var 0) (.int 1)) (.cons (.int 1) (.cons (.var 1) .nil)))))))) (.cons (.ret (.bl false))
  .nil) .nil)
  (.cons (.ret (.cmp .eq (.call 27 (.cons (.idx (.var 0) (.int 0)) (.cons (.idx (.var 0) (.int 1)) .nil))) (.var 0)))
  .nil))))⟩
def n31 : List Str := ["item", "top"]
def e31 : Ent := ⟨"_law_is_value", top 42, f31, n31, ["item"]⟩
/-- _law_are_numbers: 0=value 1=item -/
def f32 : Def := ⟨1, 2, (.cons (.ret (.and (.isi (.var 0) .tup) (.bi .all (.cons (.comp false (.call 30 (.cons (.var 1) (.cons (.int 0) (.cons (.int 1000) .nil)))) (.nm 1) (.of (.var 0)) .none [1]) .nil))))
  .nil)⟩
def n32 : List Str := ["value", "item"]
def e32 : Ent := ⟨"_law_are_numbers", top 43, f32, n32, ["value"]⟩
/-- _law_is_paper: 0=value 1=row 2=item -/
def f33 : Def := ⟨1, 3, (.cons (.ifs (.isN false (.var 0)) (.cons (.ret (.bl true))
  .nil) .nil)
  (.cons (.ifs (.or (.no (.isi (.var 0) .tup)) (.or (.cmp .ne (.bi .len (.cons (.var 0) .nil)) (.int 4)) (.or (.no (.isi (.idx (.var 0) (.int 0)) .str)) (.cmp .notin (.idx (.var 0) (.int 0)) (.lst false (.cons (.str "most") (.cons (.str "least") (.cons (.str "gain most") (.cons (.str "gain least") .nil))))))))) (.cons (.ret (.bl false))
  .nil) .nil)
  (.cons (.ifs (.no (.bi .all (.cons (.comp false (.and (.isi (.var 1) .tup) (.cmp .gt (.bi .len (.cons (.var 1) .nil)) (.int 0))) (.nm 1) (.of (.slc (.var 0) (.some (.int 1)) .none)) .none [1]) .nil))) (.cons (.ret (.bl false))
  .nil) .nil)
  (.cons (.ret (.and (.bi .all (.cons (.comp false (.call 31 (.cons (.var 2) .nil)) (.nm 2) (.of (.idx (.var 0) (.int 1))) .none [2]) .nil)) (.and (.call 32 (.cons (.idx (.var 0) (.int 2)) .nil)) (.call 32 (.cons (.idx (.var 0) (.int 3)) .nil)))))
  .nil))))⟩
def n33 : List Str := ["value", "row", "item"]
def e33 : Ent := ⟨"_law_is_paper", top 44, f33, n33, ["value"]⟩
/-- _law_has_form: 0=value 1=part -/
def f34 : Def := ⟨1, 2, (.cons (.ifs (.or (.no (.isi (.var 0) .tup)) (.or (.cmp .ne (.bi .len (.cons (.var 0) .nil)) (.int 2)) (.or (.no (.isi (.idx (.var 0) (.int 0)) .bool)) (.no (.isi (.idx (.var 0) (.int 1)) .tup))))) (.cons (.ret (.bl false))
  .nil) .nil)
  (.cons (.ret (.bi .all (.cons (.comp false (.and (.isi (.var 1) .tup) (.and (.cmp .eq (.bi .len (.cons (.var 1) .nil)) (.int 2)) (.and (.call 32 (.cons (.idx (.var 1) (.int 0)) .nil)) (.call 33 (.cons (.idx (.var 1) (.int 1)) .nil))))) (.nm 1) (.of (.idx (.var 0) (.int 1))) .none [1]) .nil)))
  .nil))⟩
def n34 : List Str := ["value", "part"]
def e34 : Ent := ⟨"_law_has_form", top 45, f34, n34, ["value"]⟩
/-- _law_number: 0=text 1=good 2=sign -/
def f35 : Def := ⟨1, 3, (.cons (.asg (.nm 1) (.and (.cmp .ne (.var 0) (.str "")) (.and (.bi .all (.cons (.comp false (.cmp .isin (.var 2) (.str "0123456789")) (.nm 2) (.of (.var 0)) .none [2]) .nil)) (.or (.cmp .eq (.var 0) (.str "0")) (.cmp .ne (.idx (.var 0) (.int 0)) (.str "0"))))))
  (.cons (.ret (.ife (.var 1) (.bi .int (.cons (.var 0) .nil)) .non))
  .nil))⟩
def n35 : List Str := ["text", "good", "sign"]
def e35 : Ent := ⟨"_law_number", top 46, f35, n35, ["text"]⟩
/-- _law_read_numbers: 0=text 1=least 2=found 3=part -/
def f36 : Def := ⟨2, 4, (.cons (.asg (.nm 2) (.ife (.cmp .eq (.var 0) (.str "-")) (.lst false .nil) (.comp false (.call 35 (.cons (.var 3) .nil)) (.nm 3) (.of (.me .split (.var 0) (.cons (.str ",") .nil))) .none [3])))
  (.cons (.ret (.ife (.or (.cmp .isin .non (.var 2)) (.or (.cmp .lt (.bi .len (.cons (.var 2) .nil)) (.var 1)) (.cmp .gt (.bi .max (.cons (.bin .add (.var 2) (.lst false (.cons (.int 0) .nil))) .nil)) (.int 999)))) .non (.bi .tuple (.cons (.var 2) .nil))))
  .nil))⟩
def n36 : List Str := ["text", "least", "found", "part"]
def e36 : Ent := ⟨"_law_read_numbers", top 47, f36, n36, ["text", "least"]⟩
/-- _law_read_value: 0=text 1=told 2=above 3=slash 4=below -/
def f37 : Def := ⟨1, 5, (.cons (.ifs (.cmp .eq (.var 0) (.str "-")) (.cons (.ret (.lst false (.cons .non .nil)))
  .nil) .nil)
  (.cons (.asg (.tup [2, 3, 4]) (.me .partition (.var 0) (.cons (.str "/") .nil)))
  (.cons (.asg (.nm 1) (.tup (.cons (.call 35 (.cons (.var 2) .nil)) (.cons (.ife (.cmp .ne (.var 3) (.str "")) (.call 35 (.cons (.var 4) .nil)) (.int 1)) .nil))))
  (.cons (.ifs (.or (.cmp .isin .non (.var 1)) (.or (.cmp .eq (.idx (.var 1) (.int 1)) (.int 0)) (.or (.and (.cmp .ne (.var 3) (.str "")) (.cmp .eq (.idx (.var 1) (.int 1)) (.int 1))) (.cmp .ne (.call 27 (.cons (.idx (.var 1) (.int 0)) (.cons (.idx (.var 1) (.int 1)) .nil))) (.var 1))))) (.cons (.ret .non)
  .nil) .nil)
  (.cons (.ret (.lst false (.cons (.var 1) .nil)))
  .nil)))))⟩
def n37 : List Str := ["text", "told", "above", "slash", "below"]
def e37 : Ent := ⟨"_law_read_value", top 48, f37, n37, ["text"]⟩
/-- _law_read: 0=text 1=part 2=parts 3=found 4=words 5=states 6=space 7=told 8=lot 9=rows 10=values 11=plan 12=ranks 13=item -/
def f38 : Def := ⟨1, 14, (.cons (.par2 2 3 (.me .split (.var 0) (.cons (.str "; ") .nil)) (.lst true .nil))
  (.cons (.ifs (.cmp .notin (.idx (.var 2) (.int 0)) (.lst false (.cons (.str "yes") (.cons (.str "no") .nil)))) (.cons (.ret .non)
  .nil) .nil)
  (.cons (.for_ (.nm 1) (.of (.slc (.var 2) (.some (.int 1)) .none)) (.cons (.asg (.tup [5, 6, 7]) (.me .partition (.var 1) (.cons (.str " ") .nil)))
  (.cons (.par2 8 9 (.call 36 (.cons (.var 5) (.cons (.int 0) .nil))) (.me .split (.var 7) (.cons (.str ":") .nil)))
  (.cons (.asg (.nm 4) (.dct [("most", "most"), ("least", "least"), ("gainmost", "gain most"), ("gainleast", "gain least")]))
  (.cons (.ifs (.or (.cmp .eq (.var 6) (.str "")) (.or (.isN false (.var 8)) (.and (.cmp .ne (.var 7) (.str "-")) (.or (.cmp .ne (.bi .len (.cons (.var 9) .nil)) (.int 4)) (.cmp .notin (.idx (.var 9) (.int 0)) (.var 4)))))) (.cons (.ret .non)
  .nil) .nil)
  (.cons (.ifs (.cmp .eq (.var 7) (.str "-")) (.cons (.xpr (.lm .append (.var 3) (.cons (.tup (.cons (.var 8) (.cons .non .nil))) .nil)))
  .nil) (.cons (.par3 10 11 12 (.comp false (.call 37 (.cons (.var 13) .nil)) (.nm 13) (.of (.me .split (.idx (.var 9) (.int 1)) (.cons (.str ",") .nil))) .none [13]) (.call 36 (.cons (.idx (.var 9) (.int 2)) (.cons (.int 1) .nil))) (.call 36 (.cons (.idx (.var 9) (.int 3)) (.cons (.int 1) .nil))))
  (.cons (.ifs (.or (.cmp .isin .non (.var 10)) (.or (.isN false (.var 11)) (.isN false (.var 12)))) (.cons (.ret .non)
  .nil) .nil)
  (.cons (.xpr (.lm .append (.var 3) (.cons (.tup (.cons (.var 8) (.cons (.tup (.cons (.idx (.var 4) (.idx (.var 9) (.int 0))) (.cons (.bi .tuple (.cons (.comp false (.idx (.var 13) (.int 0)) (.nm 13) (.of (.var 10)) .none [13]) .nil)) (.cons (.var 11) (.cons (.var 12) .nil))))) .nil))) .nil)))
  .nil))))
  .nil))))))
  (.cons (.ret (.tup (.cons (.cmp .eq (.idx (.var 2) (.int 0)) (.str "yes")) (.cons (.bi .tuple (.cons (.var 3) .nil)) .nil))))
  .nil))))⟩
def n38 : List Str := ["text", "part", "parts", "found", "words", "states", "space", "told", "lot", "rows", "values", "plan", "ranks", "item"]
def e38 : Ent := ⟨"_law_read", top 49, f38, n38, ["text"]⟩
/-- _law_bent: 0=draw 1=data 2=i -/
def f39 : Def := ⟨2, 3, (.cons (.ifs (.and (.isi (.var 1) .tup) (.and (.cmp .gt (.bi .len (.cons (.var 1) .nil)) (.int 0)) (.cmp .gt (.call 23 (.cons (.var 0) (.cons (.int 6) .nil))) (.int 0)))) (.cons (.asg (.nm 2) (.call 23 (.cons (.var 0) (.cons (.bi .len (.cons (.var 1) .nil)) .nil))))
  (.cons (.ret (.bin .add (.bin .add (.slc (.var 1) .none (.some (.var 2))) (.tup (.cons (.call 39 (.cons (.var 0) (.cons (.idx (.var 1) (.var 2)) .nil))) .nil))) (.slc (.var 1) (.some (.bin .add (.var 2) (.int 1))) .none)))
  .nil)) .nil)
  (.cons (.ifs (.isi (.var 1) .tup) (.cons (.ret (.idx (.lst false (.cons (.bi .list (.cons (.var 1) .nil)) (.cons (.bin .add (.var 1) (.slc (.var 1) (.some (.neg (.int 1))) .none)) (.cons (.slc (.var 1) .none (.some (.neg (.int 1)))) (.cons (.rev (.var 1)) (.cons .non (.cons (.tup .nil) .nil))))))) (.call 23 (.cons (.var 0) (.cons (.int 6) .nil)))))
  .nil) .nil)
  (.cons (.ifs (.isi (.var 1) .str) (.cons (.ret (.idx (.lst false (.cons (.str "most") (.cons (.str "least") (.cons (.str "gain most") (.cons (.str "gainmost") (.cons .non .nil)))))) (.call 23 (.cons (.var 0) (.cons (.int 5) .nil)))))
  .nil) .nil)
  (.cons (.ret (.idx (.lst false (.cons (.int 0) (.cons (.int 1) (.cons (.int 1000) (.cons (.neg (.int 1)) (.cons .non (.cons (.bl true) (.cons (.bl false) (.cons (.tup (.cons (.int 2) (.cons (.int 4) .nil))) (.cons (.tup (.cons (.int 1) (.cons (.int 0) .nil))) (.cons (.tup (.cons (.int 0) (.cons (.int 1) .nil))) .nil))))))))))) (.call 23 (.cons (.var 0) (.cons (.int 10) .nil)))))
  .nil))))⟩
def n39 : List Str := ["draw", "data", "i"]
def e39 : Ent := ⟨"_law_bent", top 50, f39, n39, ["draw", "data"]⟩
/-- _law_told: 0=which 1=value -/
def f40 : Def := ⟨2, 2, (.cons (.tryx (.cons (.ret (.ife (.cmp .eq (.var 0) (.int 0)) (.call 15 (.cons (.var 1) .nil)) (.call 21 (.cons (.var 1) .nil))))
  .nil) 0 none (.cons (.ret (.str "<malformed>"))
  .nil))
  .nil)⟩
def n40 : List Str := ["which", "value"]
def e40 : Ent := ⟨"_law_told", top 51, f40, n40, ["which", "value"]⟩
/-- law: 0=script 1=draw 2=turn 3=long 4=wide 5=answer 6=text 7=again 8=bent 9=good 10=i 11=sign 12=due 13=other 14=bad -/
def f41 : Def := ⟨1, 15, (.cons (.asg (.nm 1) (.call 22 (.cons (.var 0) .nil)))
  (.cons (.for_ (.nm 2) (.rng1 (.int 6)) (.cons (.asg (.nm 5) (.call 29 (.cons (.var 1) .nil)))
  (.cons (.asg (.nm 6) (.call 26 (.cons (.var 5) .nil)))
  (.cons (.ifs (.or (.cmp .ne (.call 15 (.cons (.var 5) .nil)) (.var 6)) (.or (.cmp .ne (.bi .repr (.cons (.call 21 (.cons (.var 6) .nil)) .nil)) (.bi .repr (.cons (.var 5) .nil))) (.no (.call 24 (.cons (.call 10 (.cons (.var 5) .nil)) (.cons (.bl true) .nil)))))) (.cons (.ret (.bl false))
  .nil) .nil)
  (.cons (.for_ (.nm 7) (.rng1 (.int 6)) (.cons (.par2 10 11 (.call 23 (.cons (.var 1) (.cons (.bin .add (.bi .len (.cons (.var 6) .nil)) (.int 1)) .nil))) (.idx (.str "0123,;:/- ays9") (.call 23 (.cons (.var 1) (.cons (.int 14) .nil)))))
  (.cons (.asg (.nm 8) (.idx (.lst false (.cons (.bin .add (.bin .add (.slc (.var 6) .none (.some (.var 10))) (.var 11)) (.slc (.var 6) (.some (.var 10)) .none)) (.cons (.bin .add (.slc (.var 6) .none (.some (.var 10))) (.slc (.var 6) (.some (.bin .add (.var 10) (.int 1))) .none)) (.cons (.bin .add (.bin .add (.slc (.var 6) .none (.some (.var 10))) (.var 11)) (.slc (.var 6) (.some (.bin .add (.var 10) (.int 1))) .none)) (.cons (.slc (.var 6) .none (.some (.var 10))) .nil))))) (.call 23 (.cons (.var 1) (.cons (.int 4) .nil)))))
  (.cons (.par2 12 13 (.call 38 (.cons (.var 8) .nil)) (.call 39 (.cons (.var 1) (.cons (.var 5) .nil))))
  (.cons (.ifs (.cmp .ne (.bi .repr (.cons (.call 40 (.cons (.int 1) (.cons (.var 8) .nil))) .nil)) (.bi .repr (.cons (.ife (.isN false (.var 12)) (.str "<malformed>") (.var 12)) .nil))) (.cons (.ret (.bl false))
  .nil) .nil)
  (.cons (.asg (.nm 9) (.call 34 (.cons (.var 13) .nil)))
  (.cons (.ifs (.or (.no (.call 24 (.cons (.call 10 (.cons (.var 13) .nil)) (.cons (.var 9) .nil)))) (.cmp .eq (.cmp .eq (.call 40 (.cons (.int 0) (.cons (.var 13) .nil))) (.str "<malformed>")) (.var 9))) (.cons (.ret (.bl false))
  .nil) .nil)
  .nil)))))))
  .nil)))))
  (.cons (.asg (.nm 3) (.bin .mul (.str "9") (.int 4000)))
  (.cons (.asg (.nm 4) (.tup (.cons (.bl true) (.cons (.tup (.cons (.tup (.cons (.tup .nil) (.cons (.tup (.cons (.str "most") (.cons (.tup (.cons (.tup (.cons (.bi .int (.cons (.var 3) .nil)) (.cons (.int 1) .nil))) .nil)) (.cons (.tup (.cons (.int 0) .nil)) (.cons (.tup (.cons (.int 0) .nil)) .nil))))) .nil))) .nil)) .nil))))
  (.cons (.ifs (.or (.cmp .ne (.call 15 (.cons (.var 4) .nil)) (.bin .add (.bin .add (.str "yes; - most:") (.var 3)) (.str ":0:0"))) (.cmp .ne (.bi .repr (.cons (.call 21 (.cons (.bin .add (.bin .add (.str "yes; - most:") (.var 3)) (.str ":0:0")) .nil)) .nil)) (.bi .repr (.cons (.var 4) .nil)))) (.cons (.ret (.bl false))
  .nil) .nil)
  (.cons (.asg (.nm 4) (.tup (.cons (.bl true) (.cons (.tup (.cons (.tup (.cons (.tup .nil) (.cons (.tup (.cons (.str "most") (.cons (.tup (.cons (.tup (.cons (.bin .add (.bi .int (.cons (.var 3) .nil)) (.int 1)) (.cons (.int 1) .nil))) .nil)) (.cons (.tup (.cons (.int 0) .nil)) (.cons (.tup (.cons (.int 0) .nil)) .nil))))) .nil))) .nil)) .nil))))
  (.cons (.ifs (.or (.cmp .ne (.call 40 (.cons (.int 0) (.cons (.var 4) .nil))) (.str "<malformed>")) (.cmp .ne (.call 40 (.cons (.int 1) (.cons (.bin .add (.bin .add (.str "yes; - most:") (.var 3)) (.str "0:0:0")) .nil))) (.str "<malformed>"))) (.cons (.ret (.bl false))
  .nil) .nil)
  (.cons (.ret (.cmp .eq (.comp false (.call 40 (.cons (.int 1) (.cons (.var 14) .nil))) (.nm 14) (.of (.lst false (.cons .non (.cons (.int 5) (.cons (.var 5) (.cons (.str "") (.cons (.str "maybe") .nil))))))) .none [14]) (.bin .mul (.lst false (.cons (.str "<malformed>") .nil)) (.int 5))))
  .nil))))))))⟩
def n41 : List Str := ["script", "draw", "turn", "long", "wide", "answer", "text", "again", "bent", "good", "i", "sign", "due", "other", "bad"]
def e41 : Ent := ⟨"law", top 52, f41, n41, ["script"]⟩
def txt : Txt := ⟨[e0, e1, e2, e3, e4, e5, e6, e7, e8, e9, e10, e11, e12, e13, e14, e15, e16, e17, e18, e19, e20, e21, e22, e23, e24, e25, e26, e27, e28, e29, e30, e31, e32, e33, e34, e35, e36, e37, e38, e39, e40, e41], [.str "DIGITS" "0123456789", .int "MOST_DIGITS" 4000, .int "MOST_NUMBER" 999, .dct "PAPERS" [("most", "most"), ("least", "least"), ("gain most", "gainmost"), ("gain least", "gainleast")]], ["Malformed"]⟩
theorem ok0 : e0.ok txt.tab = true := by decide +kernel
theorem bd0 : e0.bd := fun _ _ _ _ _ _ us hl => match us, hl with | [_], _ => rfl
theorem ok1 : e1.ok txt.tab = true := by decide +kernel
theorem bd1 : e1.bd := fun _ _ _ _ _ _ us hl => match us, hl with | [_, _], _ => rfl
theorem ok2 : e2.ok txt.tab = true := by decide +kernel
theorem bd2 : e2.bd := fun _ _ _ _ _ _ us hl => match us, hl with | [_, _], _ => rfl
theorem ok3 : e3.ok txt.tab = true := by decide +kernel
theorem bd3 : e3.bd := fun _ _ _ _ _ _ us hl => match us, hl with | [_], _ => rfl
theorem ok4 : e4.ok txt.tab = true := by decide +kernel
theorem bd4 : e4.bd := fun _ _ _ _ _ _ us hl => match us, hl with | [_], _ => rfl
theorem ok5 : e5.ok txt.tab = true := by decide +kernel
theorem bd5 : e5.bd := fun _ _ _ _ _ _ us hl => match us, hl with | [_], _ => rfl
theorem ok6 : e6.ok txt.tab = true := by decide +kernel
theorem bd6 : e6.bd := fun _ _ _ _ _ _ us hl => match us, hl with | [_], _ => rfl
theorem ok7 : e7.ok txt.tab = true := by decide +kernel
theorem bd7 : e7.bd := fun _ _ _ _ _ _ us hl => match us, hl with | [_], _ => rfl
theorem ok8 : e8.ok txt.tab = true := by decide +kernel
theorem bd8 : e8.bd := fun _ _ _ _ _ _ us hl => match us, hl with | [_], _ => rfl
theorem ok9 : e9.ok txt.tab = true := by decide +kernel
theorem bd9 : e9.bd := fun _ _ _ _ _ _ us hl => match us, hl with | [_], _ => rfl
theorem ok10 : e10.ok txt.tab = true := by decide +kernel
theorem bd10 : e10.bd := fun _ _ _ _ _ _ us hl => match us, hl with | [_], _ => rfl
theorem ok11 : e11.ok txt.tab = true := by decide +kernel
theorem bd11 : e11.bd := fun _ _ _ _ _ _ us hl => match us, hl with | [_], _ => rfl
theorem ok12 : e12.ok txt.tab = true := by decide +kernel
theorem bd12 : e12.bd := fun _ _ _ _ _ _ us hl => match us, hl with | [_], _ => rfl
theorem ok13 : e13.ok txt.tab = true := by decide +kernel
theorem bd13 : e13.bd := fun _ _ _ _ _ _ us hl => match us, hl with | [_], _ => rfl
theorem ok14 : e14.ok txt.tab = true := by decide +kernel
theorem bd14 : e14.bd := fun _ _ _ _ _ _ us hl => match us, hl with | [_], _ => rfl
theorem ok15 : e15.ok txt.tab = true := by decide +kernel
theorem bd15 : e15.bd := fun _ _ _ _ _ _ us hl => match us, hl with | [_], _ => rfl
theorem ok16 : e16.ok txt.tab = true := by decide +kernel
theorem bd16 : e16.bd := fun _ _ _ _ _ _ us hl => match us, hl with | [_], _ => rfl
theorem ok17 : e17.ok txt.tab = true := by decide +kernel
theorem bd17 : e17.bd := fun _ _ _ _ _ _ us hl => match us, hl with | [_], _ => rfl
theorem ok18 : e18.ok txt.tab = true := by decide +kernel
theorem bd18 : e18.bd := fun _ _ _ _ _ _ us hl => match us, hl with | [_], _ => rfl
theorem ok19 : e19.ok txt.tab = true := by decide +kernel
theorem bd19 : e19.bd := fun _ _ _ _ _ _ us hl => match us, hl with | [_], _ => rfl
theorem ok20 : e20.ok txt.tab = true := by decide +kernel
theorem bd20 : e20.bd := fun _ _ _ _ _ _ us hl => match us, hl with | [_], _ => rfl
theorem ok21 : e21.ok txt.tab = true := by decide +kernel
theorem bd21 : e21.bd := fun _ _ _ _ _ _ us hl => match us, hl with | [_], _ => rfl
theorem ok22 : e22.ok txt.tab = true := by decide +kernel
theorem bd22 : e22.bd := fun _ _ _ _ _ _ us hl => match us, hl with | [_], _ => rfl
theorem ok23 : e23.ok txt.tab = true := by decide +kernel
theorem bd23 : e23.bd := fun _ _ _ _ _ _ us hl => match us, hl with | [_, _], _ => rfl
theorem ok24 : e24.ok txt.tab = true := by decide +kernel
theorem bd24 : e24.bd := fun _ _ _ _ _ _ us hl => match us, hl with | [_, _], _ => rfl
theorem ok25 : e25.ok txt.tab = true := by decide +kernel
theorem bd25 : e25.bd := fun _ _ _ _ _ _ us hl => match us, hl with | [_], _ => rfl
theorem ok26 : e26.ok txt.tab = true := by decide +kernel
theorem bd26 : e26.bd := fun _ _ _ _ _ _ us hl => match us, hl with | [_], _ => rfl
theorem ok27 : e27.ok txt.tab = true := by decide +kernel
theorem bd27 : e27.bd := fun _ _ _ _ _ _ us hl => match us, hl with | [_, _], _ => rfl
theorem ok28 : e28.ok txt.tab = true := by decide +kernel
theorem bd28 : e28.bd := fun _ _ _ _ _ _ us hl => match us, hl with | [_], _ => rfl
theorem ok29 : e29.ok txt.tab = true := by decide +kernel
theorem bd29 : e29.bd := fun _ _ _ _ _ _ us hl => match us, hl with | [_], _ => rfl
theorem ok30 : e30.ok txt.tab = true := by decide +kernel
theorem bd30 : e30.bd := fun _ _ _ _ _ _ us hl => match us, hl with | [_, _, _], _ => rfl
theorem ok31 : e31.ok txt.tab = true := by decide +kernel
theorem bd31 : e31.bd := fun _ _ _ _ _ _ us hl => match us, hl with | [_], _ => rfl
theorem ok32 : e32.ok txt.tab = true := by decide +kernel
theorem bd32 : e32.bd := fun _ _ _ _ _ _ us hl => match us, hl with | [_], _ => rfl
theorem ok33 : e33.ok txt.tab = true := by decide +kernel
theorem bd33 : e33.bd := fun _ _ _ _ _ _ us hl => match us, hl with | [_], _ => rfl
theorem ok34 : e34.ok txt.tab = true := by decide +kernel
theorem bd34 : e34.bd := fun _ _ _ _ _ _ us hl => match us, hl with | [_], _ => rfl
theorem ok35 : e35.ok txt.tab = true := by decide +kernel
theorem bd35 : e35.bd := fun _ _ _ _ _ _ us hl => match us, hl with | [_], _ => rfl
theorem ok36 : e36.ok txt.tab = true := by decide +kernel
theorem bd36 : e36.bd := fun _ _ _ _ _ _ us hl => match us, hl with | [_, _], _ => rfl
theorem ok37 : e37.ok txt.tab = true := by decide +kernel
theorem bd37 : e37.bd := fun _ _ _ _ _ _ us hl => match us, hl with | [_], _ => rfl
theorem ok38 : e38.ok txt.tab = true := by decide +kernel
theorem bd38 : e38.bd := fun _ _ _ _ _ _ us hl => match us, hl with | [_], _ => rfl
theorem ok39 : e39.ok txt.tab = true := by decide +kernel
theorem bd39 : e39.bd := fun _ _ _ _ _ _ us hl => match us, hl with | [_, _], _ => rfl
theorem ok40 : e40.ok txt.tab = true := by decide +kernel
theorem bd40 : e40.bd := fun _ _ _ _ _ _ us hl => match us, hl with | [_, _], _ => rfl
theorem ok41 : e41.ok txt.tab = true := by decide +kernel
theorem bd41 : e41.bd := fun _ _ _ _ _ _ us hl => match us, hl with | [_], _ => rfl
theorem ok_all : ∀ e ∈ txt.ents, e.ok txt.tab = true := by
  intro e h
  simp only [txt, List.mem_cons, List.not_mem_nil, or_false] at h
  rcases h with rfl | rfl | rfl | rfl | rfl | rfl | rfl | rfl | rfl | rfl | rfl | rfl | rfl | rfl | rfl | rfl | rfl | rfl | rfl | rfl | rfl | rfl | rfl | rfl | rfl | rfl | rfl | rfl | rfl | rfl | rfl | rfl | rfl | rfl | rfl | rfl | rfl | rfl | rfl | rfl | rfl | rfl
  · exact ok0
  · exact ok1
  · exact ok2
  · exact ok3
  · exact ok4
  · exact ok5
  · exact ok6
  · exact ok7
  · exact ok8
  · exact ok9
  · exact ok10
  · exact ok11
  · exact ok12
  · exact ok13
  · exact ok14
  · exact ok15
  · exact ok16
  · exact ok17
  · exact ok18
  · exact ok19
  · exact ok20
  · exact ok21
  · exact ok22
  · exact ok23
  · exact ok24
  · exact ok25
  · exact ok26
  · exact ok27
  · exact ok28
  · exact ok29
  · exact ok30
  · exact ok31
  · exact ok32
  · exact ok33
  · exact ok34
  · exact ok35
  · exact ok36
  · exact ok37
  · exact ok38
  · exact ok39
  · exact ok40
  · exact ok41
theorem bd_all : ∀ e ∈ txt.ents, e.bd := by
  intro e h
  simp only [txt, List.mem_cons, List.not_mem_nil, or_false] at h
  rcases h with rfl | rfl | rfl | rfl | rfl | rfl | rfl | rfl | rfl | rfl | rfl | rfl | rfl | rfl | rfl | rfl | rfl | rfl | rfl | rfl | rfl | rfl | rfl | rfl | rfl | rfl | rfl | rfl | rfl | rfl | rfl | rfl | rfl | rfl | rfl | rfl | rfl | rfl | rfl | rfl | rfl | rfl
  · exact bd0
  · exact bd1
  · exact bd2
  · exact bd3
  · exact bd4
  · exact bd5
  · exact bd6
  · exact bd7
  · exact bd8
  · exact bd9
  · exact bd10
  · exact bd11
  · exact bd12
  · exact bd13
  · exact bd14
  · exact bd15
  · exact bd16
  · exact bd17
  · exact bd18
  · exact bd19
  · exact bd20
  · exact bd21
  · exact bd22
  · exact bd23
  · exact bd24
  · exact bd25
  · exact bd26
  · exact bd27
  · exact bd28
  · exact bd29
  · exact bd30
  · exact bd31
  · exact bd32
  · exact bd33
  · exact bd34
  · exact bd35
  · exact bd36
  · exact bd37
  · exact bd38
  · exact bd39
  · exact bd40
  · exact bd41
end K54

set_option linter.all false
set_option maxRecDepth 100000
set_option maxHeartbeats 1000000
set_option exponentiation.threshold 20000
namespace K54
open PySem MP
section
variable {M k : Nat} {S : Sto}
mutual
/-- values of plain data, ints not too large, sequences not too long -/
def okD : D → Bool
  | .non => true
  | .bl _ => true
  | .int i => decide (i.natAbs < 10 ^ 4100)
  | .str _ => true
  | .tup ds => okDs ds && decide (ds.length ≤ 100000)
  | .lst ds => okDs ds && decide (ds.length ≤ 100000)
  | _ => false
def okDs : List D → Bool
  | [] => true
  | d :: ds => okD d && okDs ds
end
theorem okDs_mem : ∀ {ds : List D}, okDs ds = true → ∀ d ∈ ds, okD d = true
  | [], _, _, h => by cases h
  | x :: xs, h, d, hd => by
    unfold okDs at h
    rw [Bool.and_eq_true] at h
    rcases List.mem_cons.mp hd with rfl | hd
    · exact h.1
    · exact okDs_mem h.2 d hd
def isWhole : D → Bool
  | .int _ => true
  | _ => false
theorem is_whole_ev (d : D) (h : okD d = true) : callN txt.prog M (k + 1) 0 [d] S = .ok (.bl (isWhole d)) S := by
  refine call_ret (d := f0) rfl rfl ⟨[some d], ?_⟩
  cases d <;> first | (exact Bool.noConfusion (show false = true from h)) | (simp [cfg_call, cfg_N, ev_var, ev_non, ev_bl, ev_int, ev_str, ev_glb, ev_bin, ev_neg, ev_no, ev_cmp, ev_chain, ev_isN, ev_and, ev_or, ev_ife, ev_call, ev_bi, ev_isi, ev_me, ev_repl, ev_lm, ev_idx, ev_slc, ev_rev, ev_tup, ev_lstF, ev_lstT, ev_dct, es_nil, es_cons, eo_none, eo_some, ss_nil, ss_cons, s_asg, s_asgc, s_par2, s_par3, s_aug, s_sset, s_xpr, s_ifs, s_ret, s_raise, s_try, it_of, it_rng1, eb_none, eb_some, b_ok, b_exc, t_ok, t_exc, r_some, RS.next, bindTg, List.getElem?_cons_zero, List.getElem?_cons_succ, List.set_cons_zero, List.set_cons_succ, f0, startE, isTy, asL, isWhole])
theorem whl_gcd {S : Sto} {c : MP.Env → Sto → R D} {f : MP.Env → Sto → RS} (hc : ∀ a b : Nat, c [some (.int a), some (.int b)] S = .ok (.bl (!decide ((b : Int) = 0))) S)
    (hf : ∀ a b : Nat, b ≠ 0 → f [some (.int a), some (.int b)] S = .ok .nx [some (.int b), some (.int ((a % b : Nat) : Int))] S) : ∀ (n : Nat) (a b : Nat), b < n → ∃ e, whlL c f n [some (.int a), some (.int b)] S = .ok .nx [some (.int (Nat.gcd a b : Nat)), some e] S := by
  intro n
  induction n with
  | zero => intro a b h; omega
  | succ n ih =>
    intro a b h
    unfold whlL
    rw [hc]
    by_cases hb : b = 0
    · subst hb
      exact ⟨.int 0, by rw [Nat.gcd_zero_right]; rfl⟩
    · have e1 : (!decide ((b : Int) = 0)) = true := by simp; omega
      obtain ⟨e, he⟩ := ih b (a % b) (by have := Nat.mod_lt a (Nat.pos_of_ne_zero hb); omega)
      refine ⟨e, ?_⟩
      rw [e1, t_ok]
      dsimp only
      rw [hf a b hb]
      dsimp only
      rw [he, Nat.gcd_comm a b, Nat.gcd_rec b a]
      rw [Nat.gcd_comm]
theorem whl_gcd2 {S : Sto} {x y : Option D} {c : MP.Env → Sto → R D} {f : MP.Env → Sto → RS} (hc : ∀ a b : Nat, c [x, y, some (.int a), some (.int b)] S = .ok (.bl (!decide ((b : Int) = 0))) S)
    (hf : ∀ a b : Nat, b ≠ 0 → f [x, y, some (.int a), some (.int b)] S = .ok .nx [x, y, some (.int b), some (.int ((a % b : Nat) : Int))] S) : ∀ (n : Nat) (a b : Nat), b < n → ∃ e, whlL c f n [x, y, some (.int a), some (.int b)] S = .ok .nx [x, y, some (.int (Nat.gcd a b : Nat)), some e] S := by
  intro n
  induction n with
  | zero => intro a b h; omega
  | succ n ih =>
    intro a b h
    unfold whlL
    rw [hc]
    by_cases hb : b = 0
    · subst hb
      exact ⟨.int 0, by rw [Nat.gcd_zero_right]; rfl⟩
    · have e1 : (!decide ((b : Int) = 0)) = true := by simp; omega
      obtain ⟨e, he⟩ := ih b (a % b) (by have := Nat.mod_lt a (Nat.pos_of_ne_zero hb); omega)
      refine ⟨e, ?_⟩
      rw [e1, t_ok]
      dsimp only
      rw [hf a b hb]
      dsimp only
      rw [he, Nat.gcd_comm a b, Nat.gcd_rec b a]
      rw [Nat.gcd_comm]
theorem fmod_nat (a b : Nat) : Int.fmod (a : Int) (b : Int) = ((a % b : Nat) : Int) := by
  rw [Int.fmod_eq_emod_of_nonneg _ (by omega)]; simp
theorem common_ev (a b : Int) (h : b.natAbs < M) : callN txt.prog M (k + 1) 1 [.int a, .int b] S = .ok (.int (Nat.gcd a.natAbs b.natAbs : Nat)) S := by
  have ab : ∀ i : Int, (if i < 0 then -i else i) = (i.natAbs : Int) := by intro i; split <;> omega
  obtain ⟨e, he⟩ := whl_gcd (S := S) (c := fun env S => evE (cfgN txt.prog M k) (.cmp .ne (.var 1) (.int 0)) env S) (f := fun env S => evSs (cfgN txt.prog M k) (.cons (.par2 0 1 (.var 1) (.bin .mod (.var 0) (.var 1))) .nil) env S)
    (fun a b => by simp [cfg_call, cfg_N, ev_var, ev_non, ev_bl, ev_int, ev_str, ev_glb, ev_bin, ev_neg, ev_no, ev_cmp, ev_chain, ev_isN, ev_and, ev_or, ev_ife, ev_call, ev_bi, ev_isi, ev_me, ev_repl, ev_lm, ev_idx, ev_slc, ev_rev, ev_tup, ev_lstF, ev_lstT, ev_dct, es_nil, es_cons, eo_none, eo_some, ss_nil, ss_cons, s_asg, s_asgc, s_par2, s_par3, s_aug, s_sset, s_xpr, s_ifs, s_ret, s_raise, s_try, it_of, it_rng1, eb_none, eb_some, b_ok, b_exc, t_ok, t_exc, r_some, RS.next, bindTg, List.getElem?_cons_zero, List.getElem?_cons_succ, List.set_cons_zero, List.set_cons_succ, evCmp, eqI]) (fun a b hb => by simp [cfg_call, cfg_N, ev_var, ev_non, ev_bl, ev_int, ev_str, ev_glb, ev_bin, ev_neg, ev_no, ev_cmp, ev_chain, ev_isN, ev_and, ev_or, ev_ife, ev_call, ev_bi, ev_isi, ev_me, ev_repl, ev_lm, ev_idx, ev_slc, ev_rev, ev_tup, ev_lstF, ev_lstT, ev_dct, es_nil, es_cons, eo_none, eo_some, ss_nil, ss_cons, s_asg, s_asgc, s_par2, s_par3, s_aug, s_sset, s_xpr, s_ifs, s_ret, s_raise, s_try, it_of, it_rng1, eb_none, eb_some, b_ok, b_exc, t_ok, t_exc, r_some, RS.next, bindTg, List.getElem?_cons_zero, List.getElem?_cons_succ, List.set_cons_zero, List.set_cons_succ, evBin, hb, fmod_nat]) M a.natAbs b.natAbs h
  refine call_ret (d := f1) rfl rfl ⟨[some (.int (Nat.gcd a.natAbs b.natAbs : Nat)), some e], ?_⟩
  unfold f1
  have h1 : evS (cfgN txt.prog M k) (.par2 0 1 (.bi .abs (.cons (.var 0) .nil)) (.bi .abs (.cons (.var 1) .nil))) [some (.int a), some (.int b)] S = .ok .nx [some (.int a.natAbs), some (.int b.natAbs)] S := by
    simp [cfg_call, cfg_N, ev_var, ev_non, ev_bl, ev_int, ev_str, ev_glb, ev_bin, ev_neg, ev_no, ev_cmp, ev_chain, ev_isN, ev_and, ev_or, ev_ife, ev_call, ev_bi, ev_isi, ev_me, ev_repl, ev_lm, ev_idx, ev_slc, ev_rev, ev_tup, ev_lstF, ev_lstT, ev_dct, es_nil, es_cons, eo_none, eo_some, ss_nil, ss_cons, s_asg, s_asgc, s_par2, s_par3, s_aug, s_sset, s_xpr, s_ifs, s_ret, s_raise, s_try, it_of, it_rng1, eb_none, eb_some, b_ok, b_exc, t_ok, t_exc, r_some, RS.next, bindTg, List.getElem?_cons_zero, List.getElem?_cons_succ, List.set_cons_zero, List.set_cons_succ, evBi, ab]
  refine (ss_go h1).trans ((ss_go ((s_whl _ _).trans he)).trans ?_)
  simp [cfg_call, cfg_N, ev_var, ev_non, ev_bl, ev_int, ev_str, ev_glb, ev_bin, ev_neg, ev_no, ev_cmp, ev_chain, ev_isN, ev_and, ev_or, ev_ife, ev_call, ev_bi, ev_isi, ev_me, ev_repl, ev_lm, ev_idx, ev_slc, ev_rev, ev_tup, ev_lstF, ev_lstT, ev_dct, es_nil, es_cons, eo_none, eo_some, ss_nil, ss_cons, s_asg, s_asgc, s_par2, s_par3, s_aug, s_sset, s_xpr, s_ifs, s_ret, s_raise, s_try, it_of, it_rng1, eb_none, eb_some, b_ok, b_exc, t_ok, t_exc, r_some, RS.next, bindTg, List.getElem?_cons_zero, List.getElem?_cons_succ, List.set_cons_zero, List.set_cons_succ, ss_nil]
theorem glb0 : (cfgN txt.prog M k).glb 0 = .str "0123456789" := rfl
theorem glb1 : (cfgN txt.prog M k).glb 1 = .int 4000 := rfl
theorem glb2 : (cfgN txt.prog M k).glb 2 = .int 999 := rfl
def papers : List (Str × Str) := [("most", "most"), ("least", "least"), ("gain most", "gainmost"), ("gain least", "gainleast")]
theorem glb3 : (cfgN txt.prog M k).glb 3 = .dct papers := rfl
/-! ### fractions -/
def isRatio : D → Bool
  | .tup [.int a, .int b] => decide (0 < b) && decide ((Nat.gcd a.natAbs b.natAbs : Int) = 1)
  | _ => false
theorem ok_int {i : Int} (h : okD (.int i) = true) : i.natAbs < 10 ^ 4100 := of_decide_eq_true h
theorem ok_tup {ds : List D} (h : okD (.tup ds) = true) : okDs ds = true ∧ ds.length ≤ 100000 := by
  unfold okD at h; rw [Bool.and_eq_true, decide_eq_true_eq] at h; exact h
theorem is_ratio_ev (hM : 10 ^ 4100 ≤ M) (d : D) (h : okD d = true) : callN txt.prog M (k + 2) 3 [d] S = .ok (.bl (isRatio d)) S := by
  refine call_ret (d := f3) rfl rfl ⟨[some d], ?_⟩
  cases d with
  | tup ds =>
    obtain ⟨h1, h2⟩ := ok_tup h
    have m := okDs_mem h1
    match ds, m with
    | [], _ => simp [cfg_call, cfg_N, ev_var, ev_non, ev_bl, ev_int, ev_str, ev_glb, ev_bin, ev_neg, ev_no, ev_cmp, ev_chain, ev_isN, ev_and, ev_or, ev_ife, ev_call, ev_bi, ev_isi, ev_me, ev_repl, ev_lm, ev_idx, ev_slc, ev_rev, ev_tup, ev_lstF, ev_lstT, ev_dct, es_nil, es_cons, eo_none, eo_some, ss_nil, ss_cons, s_asg, s_asgc, s_par2, s_par3, s_aug, s_sset, s_xpr, s_ifs, s_ret, s_raise, s_try, it_of, it_rng1, eb_none, eb_some, b_ok, b_exc, t_ok, t_exc, r_some, RS.next, bindTg, List.getElem?_cons_zero, List.getElem?_cons_succ, List.set_cons_zero, List.set_cons_succ, f3, startE, isTy, asL, evBi, asQ, evCmp, eqI, isRatio]
    | [a], _ => simp [cfg_call, cfg_N, ev_var, ev_non, ev_bl, ev_int, ev_str, ev_glb, ev_bin, ev_neg, ev_no, ev_cmp, ev_chain, ev_isN, ev_and, ev_or, ev_ife, ev_call, ev_bi, ev_isi, ev_me, ev_repl, ev_lm, ev_idx, ev_slc, ev_rev, ev_tup, ev_lstF, ev_lstT, ev_dct, es_nil, es_cons, eo_none, eo_some, ss_nil, ss_cons, s_asg, s_asgc, s_par2, s_par3, s_aug, s_sset, s_xpr, s_ifs, s_ret, s_raise, s_try, it_of, it_rng1, eb_none, eb_some, b_ok, b_exc, t_ok, t_exc, r_some, RS.next, bindTg, List.getElem?_cons_zero, List.getElem?_cons_succ, List.set_cons_zero, List.set_cons_succ, f3, startE, isTy, asL, evBi, asQ, evCmp, eqI, isRatio]
    | [a, b], m =>
      have wa := is_whole_ev (M := M) (k := k) (S := S) a (m a (by simp))
      have wb := is_whole_ev (M := M) (k := k) (S := S) b (m b (by simp))
      have i0 : L2.atI [a, b] 0 = some a := rfl
      have i1 : L2.atI [a, b] 1 = some b := rfl
      by_cases ha : isWhole a = true
      · by_cases hb : isWhole b = true
        · cases a <;> first | (cases ha; done) | skip
          cases b <;> first | (cases hb; done) | skip
          rename_i i j
          have hc := common_ev (M := M) (k := k) (S := S) i j (by have := ok_int (m (.int j) (by simp)); omega)
          by_cases hj : 0 < j
          · simp [cfg_call, cfg_N, ev_var, ev_non, ev_bl, ev_int, ev_str, ev_glb, ev_bin, ev_neg, ev_no, ev_cmp, ev_chain, ev_isN, ev_and, ev_or, ev_ife, ev_call, ev_bi, ev_isi, ev_me, ev_repl, ev_lm, ev_idx, ev_slc, ev_rev, ev_tup, ev_lstF, ev_lstT, ev_dct, es_nil, es_cons, eo_none, eo_some, ss_nil, ss_cons, s_asg, s_asgc, s_par2, s_par3, s_aug, s_sset, s_xpr, s_ifs, s_ret, s_raise, s_try, it_of, it_rng1, eb_none, eb_some, b_ok, b_exc, t_ok, t_exc, r_some, RS.next, bindTg, List.getElem?_cons_zero, List.getElem?_cons_succ, List.set_cons_zero, List.set_cons_succ, f3, startE, isTy, asL, evBi, asQ, evCmp, eqI, isRatio, wa, wb, evIdx, i0, i1, isWhole, hc, hj]
          · simp [cfg_call, cfg_N, ev_var, ev_non, ev_bl, ev_int, ev_str, ev_glb, ev_bin, ev_neg, ev_no, ev_cmp, ev_chain, ev_isN, ev_and, ev_or, ev_ife, ev_call, ev_bi, ev_isi, ev_me, ev_repl, ev_lm, ev_idx, ev_slc, ev_rev, ev_tup, ev_lstF, ev_lstT, ev_dct, es_nil, es_cons, eo_none, eo_some, ss_nil, ss_cons, s_asg, s_asgc, s_par2, s_par3, s_aug, s_sset, s_xpr, s_ifs, s_ret, s_raise, s_try, it_of, it_rng1, eb_none, eb_some, b_ok, b_exc, t_ok, t_exc, r_some, RS.next, bindTg, List.getElem?_cons_zero, List.getElem?_cons_succ, List.set_cons_zero, List.set_cons_succ, f3, startE, isTy, asL, evBi, asQ, evCmp, eqI, isRatio, wa, wb, evIdx, i0, i1, isWhole, hc, hj]
        · have : isRatio (.tup [a, b]) = false := by cases a <;> cases b <;> first | rfl | (exact absurd rfl hb)
          simp [cfg_call, cfg_N, ev_var, ev_non, ev_bl, ev_int, ev_str, ev_glb, ev_bin, ev_neg, ev_no, ev_cmp, ev_chain, ev_isN, ev_and, ev_or, ev_ife, ev_call, ev_bi, ev_isi, ev_me, ev_repl, ev_lm, ev_idx, ev_slc, ev_rev, ev_tup, ev_lstF, ev_lstT, ev_dct, es_nil, es_cons, eo_none, eo_some, ss_nil, ss_cons, s_asg, s_asgc, s_par2, s_par3, s_aug, s_sset, s_xpr, s_ifs, s_ret, s_raise, s_try, it_of, it_rng1, eb_none, eb_some, b_ok, b_exc, t_ok, t_exc, r_some, RS.next, bindTg, List.getElem?_cons_zero, List.getElem?_cons_succ, List.set_cons_zero, List.set_cons_succ, f3, startE, isTy, asL, evBi, asQ, evCmp, eqI, this, wa, wb, evIdx, i0, i1, ha, hb]
      · have : isRatio (.tup [a, b]) = false := by cases a <;> first | rfl | (exact absurd rfl ha)
        simp [cfg_call, cfg_N, ev_var, ev_non, ev_bl, ev_int, ev_str, ev_glb, ev_bin, ev_neg, ev_no, ev_cmp, ev_chain, ev_isN, ev_and, ev_or, ev_ife, ev_call, ev_bi, ev_isi, ev_me, ev_repl, ev_lm, ev_idx, ev_slc, ev_rev, ev_tup, ev_lstF, ev_lstT, ev_dct, es_nil, es_cons, eo_none, eo_some, ss_nil, ss_cons, s_asg, s_asgc, s_par2, s_par3, s_aug, s_sset, s_xpr, s_ifs, s_ret, s_raise, s_try, it_of, it_rng1, eb_none, eb_some, b_ok, b_exc, t_ok, t_exc, r_some, RS.next, bindTg, List.getElem?_cons_zero, List.getElem?_cons_succ, List.set_cons_zero, List.set_cons_succ, f3, startE, isTy, asL, evBi, asQ, evCmp, eqI, this, wa, wb, evIdx, i0, i1, ha]
    | a :: b :: c :: r, _ =>
      have : ¬ ((r.length : Int) + 1 + 1 + 1 = 2) := by omega
      simp [cfg_call, cfg_N, ev_var, ev_non, ev_bl, ev_int, ev_str, ev_glb, ev_bin, ev_neg, ev_no, ev_cmp, ev_chain, ev_isN, ev_and, ev_or, ev_ife, ev_call, ev_bi, ev_isi, ev_me, ev_repl, ev_lm, ev_idx, ev_slc, ev_rev, ev_tup, ev_lstF, ev_lstT, ev_dct, es_nil, es_cons, eo_none, eo_some, ss_nil, ss_cons, s_asg, s_asgc, s_par2, s_par3, s_aug, s_sset, s_xpr, s_ifs, s_ret, s_raise, s_try, it_of, it_rng1, eb_none, eb_some, b_ok, b_exc, t_ok, t_exc, r_some, RS.next, bindTg, List.getElem?_cons_zero, List.getElem?_cons_succ, List.set_cons_zero, List.set_cons_succ, f3, startE, isTy, asL, evBi, asQ, evCmp, eqI, isRatio, this]
  | _ => first | (exact Bool.noConfusion (show false = true from h)) | (simp [cfg_call, cfg_N, ev_var, ev_non, ev_bl, ev_int, ev_str, ev_glb, ev_bin, ev_neg, ev_no, ev_cmp, ev_chain, ev_isN, ev_and, ev_or, ev_ife, ev_call, ev_bi, ev_isi, ev_me, ev_repl, ev_lm, ev_idx, ev_slc, ev_rev, ev_tup, ev_lstF, ev_lstT, ev_dct, es_nil, es_cons, eo_none, eo_some, ss_nil, ss_cons, s_asg, s_asgc, s_par2, s_par3, s_aug, s_sset, s_xpr, s_ifs, s_ret, s_raise, s_try, it_of, it_rng1, eb_none, eb_some, b_ok, b_exc, t_ok, t_exc, r_some, RS.next, bindTg, List.getElem?_cons_zero, List.getElem?_cons_succ, List.set_cons_zero, List.set_cons_succ, f3, startE, isTy, asL, evBi, asQ, evCmp, eqI, isRatio])
/-! ### short numbers -/
def isShort : D → Bool
  | .int i => decide (i.natAbs < 10 ^ 4000)
  | _ => false
theorem log10 (n : Nat) : (10 ^ n).log2 ≤ 4 * n := by
  have h0 : (10 : Nat) ^ n ≠ 0 := Nat.pos_iff_ne_zero.mp (Nat.pow_pos (by decide))
  have h1 : (10 : Nat) ^ n ≤ 16 ^ n := Nat.pow_le_pow_left (by decide) n
  have h2 : (16 : Nat) ^ n = 2 ^ (4 * n) := by rw [Nat.pow_mul]
  have h3 : (2 : Nat) ^ (4 * n) < 2 ^ (4 * n + 1) := Nat.pow_lt_pow_right (by decide) (by omega)
  have := (Nat.log2_lt h0 (k := 4 * n + 1)).mpr (by omega)
  omega
def ten32 (j : Nat) : Int := ((10 ^ (32 * j) : Nat) : Int)
def it124 : Walkd := ⟨(List.range 124).map fun (k : Nat) => .int k, none⟩
theorem for_pow {w : Walkd} {f : D → MP.Env → Sto → RS} {v : D} {S : Sto} (hst : w.still S = true)
    (hf : ∀ (d e : Option D) (x : D) (j : Nat), j ≤ 124 → f x [some v, some (.int (ten32 j)), e] S = .ok .nx [some v, some (.int (ten32 (j + 1))), some x] S) :
    ∀ (ds : List D) (j : Nat) (e : Option D), j + ds.length ≤ 125 → ∃ e', forL w f ds [some v, some (.int (ten32 j)), e] S = .ok .nx [some v, some (.int (ten32 (j + ds.length))), e'] S
  | [], j, e, _ => ⟨e, by rw [forL, if_pos hst]; rfl⟩
  | x :: ds, j, e, h => by
    rw [List.length_cons] at h
    obtain ⟨e', he⟩ := for_pow hst hf ds (j + 1) (some x) (by omega)
    refine ⟨e', ?_⟩
    rw [forL, if_pos hst, hf e e x j (by omega)]
    dsimp only
    rw [he, List.length_cons, show j + 1 + ds.length = j + (ds.length + 1) by omega]
theorem pw32 (S : Sto) : evBin .pow S (.int 10) (.int 32) = some (.int (ten32 1)) := by
  unfold evBin
  dsimp only
  rw [if_pos (by decide)]
  have : (10 : Int) ^ (32 : Int).toNat = ten32 1 := by decide +kernel
  rw [this]
theorem au32 (j : Nat) (hj : j ≤ 124) : augR .mul (.int (ten32 j)) (.int (ten32 1)) = some (.int (ten32 (j + 1))) := by
  have h1 : (ten32 j).natAbs.log2 + (ten32 1).natAbs.log2 ≤ 999000 := by
    unfold ten32
    rw [Int.natAbs_natCast, Int.natAbs_natCast]
    have a := log10 (32 * j)
    have b := log10 (32 * 1)
    omega
  have h2 : ten32 j * ten32 1 = ten32 (j + 1) := by
    unfold ten32
    rw [← Int.natCast_mul, ← Nat.pow_add]; rfl
  unfold augR
  dsimp only
  rw [if_pos h1, h2]
theorem chain_ev {c : Cfg} {S : Sto} {i m : Int} {e : Option D} : evE c (.chain .lt .lt (.neg (.var 1)) (.var 0) (.var 1)) [some (.int i), some (.int m), e] S = .ok (.bl (decide (-m < i) && decide (i < m))) S := by
  by_cases h1 : -m < i
  · simp [cfg_call, cfg_N, ev_var, ev_non, ev_bl, ev_int, ev_str, ev_glb, ev_bin, ev_neg, ev_no, ev_cmp, ev_chain, ev_isN, ev_and, ev_or, ev_ife, ev_call, ev_bi, ev_isi, ev_me, ev_repl, ev_lm, ev_idx, ev_slc, ev_rev, ev_tup, ev_lstF, ev_lstT, ev_dct, es_nil, es_cons, eo_none, eo_some, ss_nil, ss_cons, s_asg, s_asgc, s_par2, s_par3, s_aug, s_sset, s_xpr, s_ifs, s_ret, s_raise, s_try, it_of, it_rng1, eb_none, eb_some, b_ok, b_exc, t_ok, t_exc, r_some, RS.next, bindTg, List.getElem?_cons_zero, List.getElem?_cons_succ, List.set_cons_zero, List.set_cons_succ, evNeg, evCmp, h1]
  · simp [cfg_call, cfg_N, ev_var, ev_non, ev_bl, ev_int, ev_str, ev_glb, ev_bin, ev_neg, ev_no, ev_cmp, ev_chain, ev_isN, ev_and, ev_or, ev_ife, ev_call, ev_bi, ev_isi, ev_me, ev_repl, ev_lm, ev_idx, ev_slc, ev_rev, ev_tup, ev_lstF, ev_lstT, ev_dct, es_nil, es_cons, eo_none, eo_some, ss_nil, ss_cons, s_asg, s_asgc, s_par2, s_par3, s_aug, s_sset, s_xpr, s_ifs, s_ret, s_raise, s_try, it_of, it_rng1, eb_none, eb_some, b_ok, b_exc, t_ok, t_exc, r_some, RS.next, bindTg, List.getElem?_cons_zero, List.getElem?_cons_succ, List.set_cons_zero, List.set_cons_succ, evNeg, evCmp, h1]
theorem is_short_ev (d : D) (h : okD d = true) : callN txt.prog M (k + 2) 4 [d] S = .ok (.bl (isShort d)) S := by
  refine call_ret (d := f4) rfl rfl ?_
  have wd := is_whole_ev (M := M) (k := k) (S := S) d h
  by_cases hw : isWhole d = true
  · cases d <;> first | (cases hw; done) | skip
    rename_i i
    obtain ⟨e', he⟩ := for_pow (w := it124) (v := .int i) (S := S)
      (f := fTurn (cfgN txt.prog M (k + 1)) (.nm 2) (.cons (.aug 1 .mul (.bin .pow (.int 10) (.int 32))) .nil)) rfl (fun _ e x j hj => by rw [fTurn_of rfl]; simp [cfg_call, cfg_N, ev_var, ev_non, ev_bl, ev_int, ev_str, ev_glb, ev_bin, ev_neg, ev_no, ev_cmp, ev_chain, ev_isN, ev_and, ev_or, ev_ife, ev_call, ev_bi, ev_isi, ev_me, ev_repl, ev_lm, ev_idx, ev_slc, ev_rev, ev_tup, ev_lstF, ev_lstT, ev_dct, es_nil, es_cons, eo_none, eo_some, ss_nil, ss_cons, s_asg, s_asgc, s_par2, s_par3, s_aug, s_sset, s_xpr, s_ifs, s_ret, s_raise, s_try, it_of, it_rng1, eb_none, eb_some, b_ok, b_exc, t_ok, t_exc, r_some, RS.next, bindTg, List.getElem?_cons_zero, List.getElem?_cons_succ, List.set_cons_zero, List.set_cons_succ, pw32, au32 j hj]) it124.items 1 none (by decide)
    have hl : it124.items.length = 124 := by simp [it124]
    rw [hl, show 1 + 124 = 125 from rfl] at he
    have hr : rangeOf [.int (4000 / 32 - 1)] = some it124 := by
      have : (4000 / 32 - 1 : Int) = 124 := by decide
      rw [this]; rfl
    have hb : evBin .fdiv S (.int 4000) (.int 32) = some (.int (4000 / 32)) := by
      unfold evBin
      dsimp only
      rw [if_pos (by decide)]
    have hb2 : evBin .sub S (.int (4000 / 32)) (.int 1) = some (.int (4000 / 32 - 1)) := rfl
    have hit : evIt (cfgN txt.prog M (k + 1)) (.rng1 (.bin .sub (.bin .fdiv (.glb 1) (.int 32)) (.int 1))) [some (.int i), some (.int (ten32 1)), none] S = .ok it124 S := by
      simp only [cfg_call, cfg_N, ev_var, ev_non, ev_bl, ev_int, ev_str, ev_glb, ev_bin, ev_neg, ev_no, ev_cmp, ev_chain, ev_isN, ev_and, ev_or, ev_ife, ev_call, ev_bi, ev_isi, ev_me, ev_repl, ev_lm, ev_idx, ev_slc, ev_rev, ev_tup, ev_lstF, ev_lstT, ev_dct, es_nil, es_cons, eo_none, eo_some, ss_nil, ss_cons, s_asg, s_asgc, s_par2, s_par3, s_aug, s_sset, s_xpr, s_ifs, s_ret, s_raise, s_try, it_of, it_rng1, eb_none, eb_some, b_ok, b_exc, t_ok, t_exc, r_some, RS.next, bindTg, List.getElem?_cons_zero, List.getElem?_cons_succ, List.set_cons_zero, List.set_cons_succ, ↓reduceIte, glb1, hb, hb2, hr]
    have hfor : evS (cfgN txt.prog M (k + 1)) (.for_ (.nm 2) (.rng1 (.bin .sub (.bin .fdiv (.glb 1) (.int 32)) (.int 1))) (.cons (.aug 1 .mul (.bin .pow (.int 10) (.int 32))) .nil)) [some (.int i), some (.int (ten32 1)), none] S =
        .ok .nx [some (.int i), some (.int (ten32 125)), e'] S := by
      rw [s_for, hit, t_ok]
      exact he
    have h1 : evS (cfgN txt.prog M (k + 1)) (.ifs (.no (.call 0 (.cons (.var 0) .nil))) (.cons (.ret (.bl false)) .nil) .nil) [some (.int i), none, none] S = .ok .nx [some (.int i), none, none] S := by
      simp [cfg_call, cfg_N, ev_var, ev_non, ev_bl, ev_int, ev_str, ev_glb, ev_bin, ev_neg, ev_no, ev_cmp, ev_chain, ev_isN, ev_and, ev_or, ev_ife, ev_call, ev_bi, ev_isi, ev_me, ev_repl, ev_lm, ev_idx, ev_slc, ev_rev, ev_tup, ev_lstF, ev_lstT, ev_dct, es_nil, es_cons, eo_none, eo_some, ss_nil, ss_cons, s_asg, s_asgc, s_par2, s_par3, s_aug, s_sset, s_xpr, s_ifs, s_ret, s_raise, s_try, it_of, it_rng1, eb_none, eb_some, b_ok, b_exc, t_ok, t_exc, r_some, RS.next, bindTg, List.getElem?_cons_zero, List.getElem?_cons_succ, List.set_cons_zero, List.set_cons_succ, wd, isWhole]
    have h2 : evS (cfgN txt.prog M (k + 1)) (.asg (.nm 1) (.bin .pow (.int 10) (.int 32))) [some (.int i), none, none] S = .ok .nx [some (.int i), some (.int (ten32 1)), none] S := by
      simp [cfg_call, cfg_N, ev_var, ev_non, ev_bl, ev_int, ev_str, ev_glb, ev_bin, ev_neg, ev_no, ev_cmp, ev_chain, ev_isN, ev_and, ev_or, ev_ife, ev_call, ev_bi, ev_isi, ev_me, ev_repl, ev_lm, ev_idx, ev_slc, ev_rev, ev_tup, ev_lstF, ev_lstT, ev_dct, es_nil, es_cons, eo_none, eo_some, ss_nil, ss_cons, s_asg, s_asgc, s_par2, s_par3, s_aug, s_sset, s_xpr, s_ifs, s_ret, s_raise, s_try, it_of, it_rng1, eb_none, eb_some, b_ok, b_exc, t_ok, t_exc, r_some, RS.next, bindTg, List.getElem?_cons_zero, List.getElem?_cons_succ, List.set_cons_zero, List.set_cons_succ, pw32]
    by_cases hs : (decide (-(ten32 1) < i) && decide (i < ten32 1)) = true
    · refine ⟨[some (.int i), some (.int (ten32 1)), none], ?_⟩
      have e1 : isShort (.int i) = true := decide_eq_true (by
        have : (10 : Nat) ^ (32 * 1) ≤ 10 ^ 4000 := Nat.pow_le_pow_right (by decide) (by decide)
        simp only [Bool.and_eq_true, decide_eq_true_eq] at hs
        unfold ten32 at hs
        omega)
      unfold f4
      refine (ss_go h1).trans ((ss_go h2).trans (ss_rt ?_))
      rw [s_ifs, chain_ev, hs, e1]
      simp [cfg_call, cfg_N, ev_var, ev_non, ev_bl, ev_int, ev_str, ev_glb, ev_bin, ev_neg, ev_no, ev_cmp, ev_chain, ev_isN, ev_and, ev_or, ev_ife, ev_call, ev_bi, ev_isi, ev_me, ev_repl, ev_lm, ev_idx, ev_slc, ev_rev, ev_tup, ev_lstF, ev_lstT, ev_dct, es_nil, es_cons, eo_none, eo_some, ss_nil, ss_cons, s_asg, s_asgc, s_par2, s_par3, s_aug, s_sset, s_xpr, s_ifs, s_ret, s_raise, s_try, it_of, it_rng1, eb_none, eb_some, b_ok, b_exc, t_ok, t_exc, r_some, RS.next, bindTg, List.getElem?_cons_zero, List.getElem?_cons_succ, List.set_cons_zero, List.set_cons_succ, ss_nil]
    · refine ⟨[some (.int i), some (.int (ten32 125)), e'], ?_⟩
      have e1 : isShort (.int i) = (decide (-(ten32 125) < i) && decide (i < ten32 125)) := by
        unfold isShort ten32
        rw [Bool.eq_iff_iff]
        simp only [Bool.and_eq_true, decide_eq_true_eq]
        show i.natAbs < 10 ^ 4000 ↔ -((10 ^ 4000 : Nat) : Int) < i ∧ i < ((10 ^ 4000 : Nat) : Int)
        generalize (10 : Nat) ^ 4000 = p
        omega
      unfold f4
      have h3 : evS (cfgN txt.prog M (k + 1)) (.ifs (.chain .lt .lt (.neg (.var 1)) (.var 0) (.var 1)) (.cons (.ret (.bl true)) .nil) .nil) [some (.int i), some (.int (ten32 1)), none] S = .ok .nx [some (.int i), some (.int (ten32 1)), none] S := by
        rw [s_ifs, chain_ev, (Bool.not_eq_true _).mp hs]
        simp [cfg_call, cfg_N, ev_var, ev_non, ev_bl, ev_int, ev_str, ev_glb, ev_bin, ev_neg, ev_no, ev_cmp, ev_chain, ev_isN, ev_and, ev_or, ev_ife, ev_call, ev_bi, ev_isi, ev_me, ev_repl, ev_lm, ev_idx, ev_slc, ev_rev, ev_tup, ev_lstF, ev_lstT, ev_dct, es_nil, es_cons, eo_none, eo_some, ss_nil, ss_cons, s_asg, s_asgc, s_par2, s_par3, s_aug, s_sset, s_xpr, s_ifs, s_ret, s_raise, s_try, it_of, it_rng1, eb_none, eb_some, b_ok, b_exc, t_ok, t_exc, r_some, RS.next, bindTg, List.getElem?_cons_zero, List.getElem?_cons_succ, List.set_cons_zero, List.set_cons_succ, ss_nil]
      refine (ss_go h1).trans ((ss_go h2).trans ((ss_go h3).trans ((ss_go hfor).trans (ss_rt ?_))))
      rw [s_ret, chain_ev, ← e1]
      rfl
  · have : isShort d = false := by cases d <;> first | rfl | (exact absurd rfl hw)
    exact ⟨[some d, none, none], by simp [cfg_call, cfg_N, ev_var, ev_non, ev_bl, ev_int, ev_str, ev_glb, ev_bin, ev_neg, ev_no, ev_cmp, ev_chain, ev_isN, ev_and, ev_or, ev_ife, ev_call, ev_bi, ev_isi, ev_me, ev_repl, ev_lm, ev_idx, ev_slc, ev_rev, ev_tup, ev_lstF, ev_lstT, ev_dct, es_nil, es_cons, eo_none, eo_some, ss_nil, ss_cons, s_asg, s_asgc, s_par2, s_par3, s_aug, s_sset, s_xpr, s_ifs, s_ret, s_raise, s_try, it_of, it_rng1, eb_none, eb_some, b_ok, b_exc, t_ok, t_exc, r_some, RS.next, bindTg, List.getElem?_cons_zero, List.getElem?_cons_succ, List.set_cons_zero, List.set_cons_succ, f4, startE, wd, hw, this]⟩
/-! ### forms -/
def numOk : D → Bool
  | .int i => decide (0 ≤ i) && decide (i ≤ 999)
  | _ => false
def areNums : D → Bool
  | .tup ds => ds.all numOk
  | _ => false
theorem le_size {n : Nat} (h : n ≤ 100000) : n ≤ sizeLine := Nat.le_trans h (Nat.le_trans (by decide) size_big)
theorem are_numbers_ev (d : D) (h : okD d = true) : callN txt.prog M (k + 2) 6 [d] S = .ok (.bl (areNums d)) S := by
  refine call_ret (d := f6) rfl rfl ⟨[some d, none], ?_⟩
  cases d with
  | tup ds =>
    obtain ⟨h1, h2⟩ := ok_tup h
    have m := okDs_mem h1
    have ha := comp_tup (c := cfgN txt.prog M (k + 1)) (env := [some (.tup ds), none]) (S := S) (src := .var 0) (elt := .and (.call 0 (.cons (.var 1) .nil)) (.chain .le .le (.int 0) (.var 1) (.glb 2))) (i := 1) (own := [1]) (ds := ds) (g := fun x => .bl (numOk x))
      (by simp [cfg_call, cfg_N, ev_var, ev_non, ev_bl, ev_int, ev_str, ev_glb, ev_bin, ev_neg, ev_no, ev_cmp, ev_chain, ev_isN, ev_and, ev_or, ev_ife, ev_call, ev_bi, ev_isi, ev_me, ev_repl, ev_lm, ev_idx, ev_slc, ev_rev, ev_tup, ev_lstF, ev_lstT, ev_dct, es_nil, es_cons, eo_none, eo_some, ss_nil, ss_cons, s_asg, s_asgc, s_par2, s_par3, s_aug, s_sset, s_xpr, s_ifs, s_ret, s_raise, s_try, it_of, it_rng1, eb_none, eb_some, b_ok, b_exc, t_ok, t_exc, r_some, RS.next, bindTg, List.getElem?_cons_zero, List.getElem?_cons_succ, List.set_cons_zero, List.set_cons_succ, ss_nil]) (le_size h2) (fun x hx => by
        have wx := is_whole_ev (M := M) (k := k) (S := S) x (m x hx)
        cases x <;> first
          | (simp [cfg_call, cfg_N, ev_var, ev_non, ev_bl, ev_int, ev_str, ev_glb, ev_bin, ev_neg, ev_no, ev_cmp, ev_chain, ev_isN, ev_and, ev_or, ev_ife, ev_call, ev_bi, ev_isi, ev_me, ev_repl, ev_lm, ev_idx, ev_slc, ev_rev, ev_tup, ev_lstF, ev_lstT, ev_dct, es_nil, es_cons, eo_none, eo_some, ss_nil, ss_cons, s_asg, s_asgc, s_par2, s_par3, s_aug, s_sset, s_xpr, s_ifs, s_ret, s_raise, s_try, it_of, it_rng1, eb_none, eb_some, b_ok, b_exc, t_ok, t_exc, r_some, RS.next, bindTg, List.getElem?_cons_zero, List.getElem?_cons_succ, List.set_cons_zero, List.set_cons_succ, wipeE, wx, isWhole, numOk]; done)
          | (rename_i i
             by_cases h0 : 0 ≤ i
             · simp [cfg_call, cfg_N, ev_var, ev_non, ev_bl, ev_int, ev_str, ev_glb, ev_bin, ev_neg, ev_no, ev_cmp, ev_chain, ev_isN, ev_and, ev_or, ev_ife, ev_call, ev_bi, ev_isi, ev_me, ev_repl, ev_lm, ev_idx, ev_slc, ev_rev, ev_tup, ev_lstF, ev_lstT, ev_dct, es_nil, es_cons, eo_none, eo_some, ss_nil, ss_cons, s_asg, s_asgc, s_par2, s_par3, s_aug, s_sset, s_xpr, s_ifs, s_ret, s_raise, s_try, it_of, it_rng1, eb_none, eb_some, b_ok, b_exc, t_ok, t_exc, r_some, RS.next, bindTg, List.getElem?_cons_zero, List.getElem?_cons_succ, List.set_cons_zero, List.set_cons_succ, wipeE, wx, isWhole, numOk, evCmp, glb2, h0]
             · simp [cfg_call, cfg_N, ev_var, ev_non, ev_bl, ev_int, ev_str, ev_glb, ev_bin, ev_neg, ev_no, ev_cmp, ev_chain, ev_isN, ev_and, ev_or, ev_ife, ev_call, ev_bi, ev_isi, ev_me, ev_repl, ev_lm, ev_idx, ev_slc, ev_rev, ev_tup, ev_lstF, ev_lstT, ev_dct, es_nil, es_cons, eo_none, eo_some, ss_nil, ss_cons, s_asg, s_asgc, s_par2, s_par3, s_aug, s_sset, s_xpr, s_ifs, s_ret, s_raise, s_try, it_of, it_rng1, eb_none, eb_some, b_ok, b_exc, t_ok, t_exc, r_some, RS.next, bindTg, List.getElem?_cons_zero, List.getElem?_cons_succ, List.set_cons_zero, List.set_cons_succ, wipeE, wx, isWhole, numOk, evCmp, glb2, h0]))
    unfold f6
    refine ss_rt ?_
    simp [cfg_call, cfg_N, ev_var, ev_non, ev_bl, ev_int, ev_str, ev_glb, ev_bin, ev_neg, ev_no, ev_cmp, ev_chain, ev_isN, ev_and, ev_or, ev_ife, ev_call, ev_bi, ev_isi, ev_me, ev_repl, ev_lm, ev_idx, ev_slc, ev_rev, ev_tup, ev_lstF, ev_lstT, ev_dct, es_nil, es_cons, eo_none, eo_some, ss_nil, ss_cons, s_asg, s_asgc, s_par2, s_par3, s_aug, s_sset, s_xpr, s_ifs, s_ret, s_raise, s_try, it_of, it_rng1, eb_none, eb_some, b_ok, b_exc, t_ok, t_exc, r_some, RS.next, bindTg, List.getElem?_cons_zero, List.getElem?_cons_succ, List.set_cons_zero, List.set_cons_succ, startE, isTy, ha, all_bl, areNums]
  | _ => first | (exact Bool.noConfusion (show false = true from h)) | (simp [cfg_call, cfg_N, ev_var, ev_non, ev_bl, ev_int, ev_str, ev_glb, ev_bin, ev_neg, ev_no, ev_cmp, ev_chain, ev_isN, ev_and, ev_or, ev_ife, ev_call, ev_bi, ev_isi, ev_me, ev_repl, ev_lm, ev_idx, ev_slc, ev_rev, ev_tup, ev_lstF, ev_lstT, ev_dct, es_nil, es_cons, eo_none, eo_some, ss_nil, ss_cons, s_asg, s_asgc, s_par2, s_par3, s_aug, s_sset, s_xpr, s_ifs, s_ret, s_raise, s_try, it_of, it_rng1, eb_none, eb_some, b_ok, b_exc, t_ok, t_exc, r_some, RS.next, bindTg, List.getElem?_cons_zero, List.getElem?_cons_succ, List.set_cons_zero, List.set_cons_succ, f6, startE, isTy, asL, areNums])
def valOk : D → Bool
  | .tup [.int a, .int b] => isRatio (.tup [.int a, .int b]) && decide (0 ≤ a) && decide ((if a < b then b else a).natAbs < 10 ^ 4000)
  | _ => false
theorem is_value_ev (hM : 10 ^ 4100 ≤ M) (d : D) (h : okD d = true) : callN txt.prog M (k + 3) 7 [d] S = .ok (.bl (valOk d)) S := by
  refine call_ret (d := f7) rfl rfl ⟨[some d], ?_⟩
  have hr := is_ratio_ev (M := M) (k := k) (S := S) hM d h
  unfold f7
  refine ss_rt ?_
  by_cases hq : isRatio d = true
  · cases d with
    | tup ds =>
      obtain ⟨h1, h2⟩ := ok_tup h
      have m := okDs_mem h1
      match ds, m, hq, hr with
      | [.int a, .int b], m, hq, hr =>
        have e1 : evIdx S (.tup [.int a, .int b]) (.int 0) = some (.int a) := rfl
        have e2 : evBi .max S [.tup [.int a, .int b]] = some (.int (if a < b then b else a)) := rfl
        have ok : okD (.int (if a < b then b else a)) = true := by
          split
          · exact m _ (by simp)
          · exact m _ (by simp)
        have e3 := is_short_ev (M := M) (k := k) (S := S) (.int (if a < b then b else a)) ok
        have e4 : isShort (.int (if a < b then b else a)) = decide ((if a < b then b else a).natAbs < 10 ^ 4000) := rfl
        have e5 : valOk (.tup [.int a, .int b]) = (decide (0 ≤ a) && isShort (.int (if a < b then b else a))) := by
          show (isRatio _ && _ && _) = _
          rw [hq, Bool.true_and]; rfl
        generalize (if a < b then b else a) = mx at e2 e3 e4 e5 ok
        by_cases h0 : 0 ≤ a
        · simp [cfg_call, cfg_N, ev_var, ev_non, ev_bl, ev_int, ev_str, ev_glb, ev_bin, ev_neg, ev_no, ev_cmp, ev_chain, ev_isN, ev_and, ev_or, ev_ife, ev_call, ev_bi, ev_isi, ev_me, ev_repl, ev_lm, ev_idx, ev_slc, ev_rev, ev_tup, ev_lstF, ev_lstT, ev_dct, es_nil, es_cons, eo_none, eo_some, ss_nil, ss_cons, s_asg, s_asgc, s_par2, s_par3, s_aug, s_sset, s_xpr, s_ifs, s_ret, s_raise, s_try, it_of, it_rng1, eb_none, eb_some, b_ok, b_exc, t_ok, t_exc, r_some, RS.next, bindTg, List.getElem?_cons_zero, List.getElem?_cons_succ, List.set_cons_zero, List.set_cons_succ, startE, hr, hq, e1, e2, e3, evCmp, e5, h0]
        · simp [cfg_call, cfg_N, ev_var, ev_non, ev_bl, ev_int, ev_str, ev_glb, ev_bin, ev_neg, ev_no, ev_cmp, ev_chain, ev_isN, ev_and, ev_or, ev_ife, ev_call, ev_bi, ev_isi, ev_me, ev_repl, ev_lm, ev_idx, ev_slc, ev_rev, ev_tup, ev_lstF, ev_lstT, ev_dct, es_nil, es_cons, eo_none, eo_some, ss_nil, ss_cons, s_asg, s_asgc, s_par2, s_par3, s_aug, s_sset, s_xpr, s_ifs, s_ret, s_raise, s_try, it_of, it_rng1, eb_none, eb_some, b_ok, b_exc, t_ok, t_exc, r_some, RS.next, bindTg, List.getElem?_cons_zero, List.getElem?_cons_succ, List.set_cons_zero, List.set_cons_succ, startE, hr, hq, e1, e2, e3, evCmp, e5, h0]
    | _ => cases hq
  · have : valOk d = false := by
      unfold valOk
      split
      · rw [(Bool.not_eq_true _).mp hq]; rfl
      · rfl
    simp [cfg_call, cfg_N, ev_var, ev_non, ev_bl, ev_int, ev_str, ev_glb, ev_bin, ev_neg, ev_no, ev_cmp, ev_chain, ev_isN, ev_and, ev_or, ev_ife, ev_call, ev_bi, ev_isi, ev_me, ev_repl, ev_lm, ev_idx, ev_slc, ev_rev, ev_tup, ev_lstF, ev_lstT, ev_dct, es_nil, es_cons, eo_none, eo_some, ss_nil, ss_cons, s_asg, s_asgc, s_par2, s_par3, s_aug, s_sset, s_xpr, s_ifs, s_ret, s_raise, s_try, it_of, it_rng1, eb_none, eb_some, b_ok, b_exc, t_ok, t_exc, r_some, RS.next, bindTg, List.getElem?_cons_zero, List.getElem?_cons_succ, List.set_cons_zero, List.set_cons_succ, startE, hr, hq, this]
def valsOk : D → Bool
  | .tup ds => ds.all fun d => isNon d || valOk d
  | _ => false
theorem are_values_ev (hM : 10 ^ 4100 ≤ M) (d : D) (h : okD d = true) : callN txt.prog M (k + 4) 8 [d] S = .ok (.bl (valsOk d)) S := by
  refine call_ret (d := f8) rfl rfl ⟨[some d, none], ?_⟩
  cases d with
  | tup ds =>
    obtain ⟨h1, h2⟩ := ok_tup h
    have m := okDs_mem h1
    have ha := comp_tup (c := cfgN txt.prog M (k + 3)) (env := [some (.tup ds), none]) (S := S) (src := .var 0) (elt := .or (.isN false (.var 1)) (.call 7 (.cons (.var 1) .nil))) (i := 1) (own := [1]) (ds := ds) (g := fun d => .bl (isNon d || valOk d))
      (by simp [cfg_call, cfg_N, ev_var, ev_non, ev_bl, ev_int, ev_str, ev_glb, ev_bin, ev_neg, ev_no, ev_cmp, ev_chain, ev_isN, ev_and, ev_or, ev_ife, ev_call, ev_bi, ev_isi, ev_me, ev_repl, ev_lm, ev_idx, ev_slc, ev_rev, ev_tup, ev_lstF, ev_lstT, ev_dct, es_nil, es_cons, eo_none, eo_some, ss_nil, ss_cons, s_asg, s_asgc, s_par2, s_par3, s_aug, s_sset, s_xpr, s_ifs, s_ret, s_raise, s_try, it_of, it_rng1, eb_none, eb_some, b_ok, b_exc, t_ok, t_exc, r_some, RS.next, bindTg, List.getElem?_cons_zero, List.getElem?_cons_succ, List.set_cons_zero, List.set_cons_succ, ss_nil]) (le_size h2) (fun x hx => by
        have wx := is_value_ev (M := M) (k := k) (S := S) hM x (m x hx)
        cases q : isNon x with
        | true => simp [cfg_call, cfg_N, ev_var, ev_non, ev_bl, ev_int, ev_str, ev_glb, ev_bin, ev_neg, ev_no, ev_cmp, ev_chain, ev_isN, ev_and, ev_or, ev_ife, ev_call, ev_bi, ev_isi, ev_me, ev_repl, ev_lm, ev_idx, ev_slc, ev_rev, ev_tup, ev_lstF, ev_lstT, ev_dct, es_nil, es_cons, eo_none, eo_some, ss_nil, ss_cons, s_asg, s_asgc, s_par2, s_par3, s_aug, s_sset, s_xpr, s_ifs, s_ret, s_raise, s_try, it_of, it_rng1, eb_none, eb_some, b_ok, b_exc, t_ok, t_exc, r_some, RS.next, bindTg, List.getElem?_cons_zero, List.getElem?_cons_succ, List.set_cons_zero, List.set_cons_succ, wipeE, wx, q]
        | false => simp [cfg_call, cfg_N, ev_var, ev_non, ev_bl, ev_int, ev_str, ev_glb, ev_bin, ev_neg, ev_no, ev_cmp, ev_chain, ev_isN, ev_and, ev_or, ev_ife, ev_call, ev_bi, ev_isi, ev_me, ev_repl, ev_lm, ev_idx, ev_slc, ev_rev, ev_tup, ev_lstF, ev_lstT, ev_dct, es_nil, es_cons, eo_none, eo_some, ss_nil, ss_cons, s_asg, s_asgc, s_par2, s_par3, s_aug, s_sset, s_xpr, s_ifs, s_ret, s_raise, s_try, it_of, it_rng1, eb_none, eb_some, b_ok, b_exc, t_ok, t_exc, r_some, RS.next, bindTg, List.getElem?_cons_zero, List.getElem?_cons_succ, List.set_cons_zero, List.set_cons_succ, wipeE, wx, q])
    simp [cfg_call, cfg_N, ev_var, ev_non, ev_bl, ev_int, ev_str, ev_glb, ev_bin, ev_neg, ev_no, ev_cmp, ev_chain, ev_isN, ev_and, ev_or, ev_ife, ev_call, ev_bi, ev_isi, ev_me, ev_repl, ev_lm, ev_idx, ev_slc, ev_rev, ev_tup, ev_lstF, ev_lstT, ev_dct, es_nil, es_cons, eo_none, eo_some, ss_nil, ss_cons, s_asg, s_asgc, s_par2, s_par3, s_aug, s_sset, s_xpr, s_ifs, s_ret, s_raise, s_try, it_of, it_rng1, eb_none, eb_some, b_ok, b_exc, t_ok, t_exc, r_some, RS.next, bindTg, List.getElem?_cons_zero, List.getElem?_cons_succ, List.set_cons_zero, List.set_cons_succ, f8, startE, isTy, ha, all_bl, valsOk]
  | _ => first | (exact Bool.noConfusion (show false = true from h)) | (simp [cfg_call, cfg_N, ev_var, ev_non, ev_bl, ev_int, ev_str, ev_glb, ev_bin, ev_neg, ev_no, ev_cmp, ev_chain, ev_isN, ev_and, ev_or, ev_ife, ev_call, ev_bi, ev_isi, ev_me, ev_repl, ev_lm, ev_idx, ev_slc, ev_rev, ev_tup, ev_lstF, ev_lstT, ev_dct, es_nil, es_cons, eo_none, eo_some, ss_nil, ss_cons, s_asg, s_asgc, s_par2, s_par3, s_aug, s_sset, s_xpr, s_ifs, s_ret, s_raise, s_try, it_of, it_rng1, eb_none, eb_some, b_ok, b_exc, t_ok, t_exc, r_some, RS.next, bindTg, List.getElem?_cons_zero, List.getElem?_cons_succ, List.set_cons_zero, List.set_cons_succ, f8, startE, isTy, asL, valsOk])
def neTup : D → Bool
  | .tup ds => decide (0 < ds.length)
  | _ => false
def isStr : D → Bool
  | .str _ => true
  | _ => false
def inPapers : D → Bool
  | .str w => papers.any fun p => p.1 == w
  | _ => false
def paperOk : D → Bool
  | .non => true
  | .tup [w, v, p, r] => inPapers w && (neTup v && neTup p && neTup r) && (valsOk v && areNums p && areNums r)
  | _ => false
theorem evCmp_ne4 : evCmp .ne S (.int 4) (.int 4) = some false := by
  show (evEq S (.int 4) (.int 4)).map _ = _
  rw [eqI]; rfl
theorem ne_elt {c : Cfg} {v x : D} (h : okD x = true) : evE c (.ife (.isi (.var 1) .tup) (.cmp .gt (.bi .len (.cons (.var 1) .nil)) (.int 0)) (.bl false)) [some v, some x] S = .ok (.bl (neTup x)) S := by
  cases x <;> first | (exact Bool.noConfusion (show false = true from h)) | (simp [cfg_call, cfg_N, ev_var, ev_non, ev_bl, ev_int, ev_str, ev_glb, ev_bin, ev_neg, ev_no, ev_cmp, ev_chain, ev_isN, ev_and, ev_or, ev_ife, ev_call, ev_bi, ev_isi, ev_me, ev_repl, ev_lm, ev_idx, ev_slc, ev_rev, ev_tup, ev_lstF, ev_lstT, ev_dct, es_nil, es_cons, eo_none, eo_some, ss_nil, ss_cons, s_asg, s_asgc, s_par2, s_par3, s_aug, s_sset, s_xpr, s_ifs, s_ret, s_raise, s_try, it_of, it_rng1, eb_none, eb_some, b_ok, b_exc, t_ok, t_exc, r_some, RS.next, bindTg, List.getElem?_cons_zero, List.getElem?_cons_succ, List.set_cons_zero, List.set_cons_succ, isTy, asL, evBi, asQ, evCmp, neTup])
theorem has_paper_form_ev (hM : 10 ^ 4100 ≤ M) (d : D) (h : okD d = true) : callN txt.prog M (k + 5) 9 [d] S = .ok (.bl (paperOk d)) S := by
  refine call_ret (d := f9) rfl rfl ⟨[some d, none], ?_⟩
  cases d with
  | tup ds =>
    obtain ⟨h1, h2⟩ := ok_tup h
    have m := okDs_mem h1
    by_cases h4 : ∃ w v p r, ds = [w, v, p, r]
    · obtain ⟨w, v, p, r, rfl⟩ := h4
      have hl : evBi .len S [.tup [w, v, p, r]] = some (.int 4) := rfl
      have i0 : evIdx S (.tup [w, v, p, r]) (.int 0) = some w := rfl
      have i1 : evIdx S (.tup [w, v, p, r]) (.int 1) = some v := rfl
      have i2 : evIdx S (.tup [w, v, p, r]) (.int 2) = some p := rfl
      have i3 : evIdx S (.tup [w, v, p, r]) (.int 3) = some r := rfl
      have sl : evSlc S (.tup [w, v, p, r]) (some 1) none = some (.tup [v, p, r]) := rfl
      have ok1 := are_values_ev (M := M) (k := k) (S := S) hM v (m v (by simp))
      have ok2 := are_numbers_ev (M := M) (k := k + 2) (S := S) p (m p (by simp))
      have ok3 := are_numbers_ev (M := M) (k := k + 2) (S := S) r (m r (by simp))
      have ha := comp_tup (c := cfgN txt.prog M (k + 4)) (env := [some (.tup [w, v, p, r]), none]) (S := S) (src := .slc (.var 0) (.some (.int 1)) .none) (elt := .ife (.isi (.var 1) .tup) (.cmp .gt (.bi .len (.cons (.var 1) .nil)) (.int 0)) (.bl false)) (i := 1) (own := [1]) (ds := [v, p, r]) (g := fun d => .bl (neTup d))
        (by simp [cfg_call, cfg_N, ev_var, ev_non, ev_bl, ev_int, ev_str, ev_glb, ev_bin, ev_neg, ev_no, ev_cmp, ev_chain, ev_isN, ev_and, ev_or, ev_ife, ev_call, ev_bi, ev_isi, ev_me, ev_repl, ev_lm, ev_idx, ev_slc, ev_rev, ev_tup, ev_lstF, ev_lstT, ev_dct, es_nil, es_cons, eo_none, eo_some, ss_nil, ss_cons, s_asg, s_asgc, s_par2, s_par3, s_aug, s_sset, s_xpr, s_ifs, s_ret, s_raise, s_try, it_of, it_rng1, eb_none, eb_some, b_ok, b_exc, t_ok, t_exc, r_some, RS.next, bindTg, List.getElem?_cons_zero, List.getElem?_cons_succ, List.set_cons_zero, List.set_cons_succ, sl]) (le_size (by simp)) (fun x hx => ne_elt (m x (List.mem_cons_of_mem _ hx)))
      obtain ⟨nb, hnb⟩ : ∃ nb, nb = (neTup v && neTup p && neTup r) := ⟨_, rfl⟩
      have hall : evBi .all S [.lst [.bl (neTup v), .bl (neTup p), .bl (neTup r)]] = some (.bl nb) := by
        have e := all_bl (S := S) (g := neTup) [v, p, r]
        rw [hnb]
        refine e.trans ?_
        simp [Bool.and_assoc]
      by_cases hp : inPapers w = true
      · cases w <;> first | (cases hp; done) | skip
        rename_i z
        have hin : evCmp .notin S (.str z) (.dct papers) = some false := by
          show (some (papers.any fun p => p.1 == z)).map _ = _
          rw [show (papers.any fun p => p.1 == z) = true from hp]; rfl
        have e0 : isTy S (.str z) .str = some true := rfl
        have e1 : paperOk (.tup [.str z, v, p, r]) = (nb && (valsOk v && areNums p && areNums r)) := by
          show (inPapers (.str z) && _ && _) = _
          rw [hp, Bool.true_and, hnb]
        cases nb with
        | false => simp [cfg_call, cfg_N, ev_var, ev_non, ev_bl, ev_int, ev_str, ev_glb, ev_bin, ev_neg, ev_no, ev_cmp, ev_chain, ev_isN, ev_and, ev_or, ev_ife, ev_call, ev_bi, ev_isi, ev_me, ev_repl, ev_lm, ev_idx, ev_slc, ev_rev, ev_tup, ev_lstF, ev_lstT, ev_dct, es_nil, es_cons, eo_none, eo_some, ss_nil, ss_cons, s_asg, s_asgc, s_par2, s_par3, s_aug, s_sset, s_xpr, s_ifs, s_ret, s_raise, s_try, it_of, it_rng1, eb_none, eb_some, b_ok, b_exc, t_ok, t_exc, r_some, RS.next, bindTg, List.getElem?_cons_zero, List.getElem?_cons_succ, List.set_cons_zero, List.set_cons_succ, f9, startE, isTy, isNon, hl, i0, i1, i2, i3, glb3, hin, ha, hall, ok1, ok2, ok3, evCmp_ne4, e1]
        | true =>
          cases q1 : valsOk v <;> cases q2 : areNums p <;> simp [cfg_call, cfg_N, ev_var, ev_non, ev_bl, ev_int, ev_str, ev_glb, ev_bin, ev_neg, ev_no, ev_cmp, ev_chain, ev_isN, ev_and, ev_or, ev_ife, ev_call, ev_bi, ev_isi, ev_me, ev_repl, ev_lm, ev_idx, ev_slc, ev_rev, ev_tup, ev_lstF, ev_lstT, ev_dct, es_nil, es_cons, eo_none, eo_some, ss_nil, ss_cons, s_asg, s_asgc, s_par2, s_par3, s_aug, s_sset, s_xpr, s_ifs, s_ret, s_raise, s_try, it_of, it_rng1, eb_none, eb_some, b_ok, b_exc, t_ok, t_exc, r_some, RS.next, bindTg, List.getElem?_cons_zero, List.getElem?_cons_succ, List.set_cons_zero, List.set_cons_succ, f9, startE, isTy, isNon, hl, i0, i1, i2, i3, glb3, hin, ha, hall, ok1, ok2, ok3, evCmp_ne4, e1, q1, q2]
      · have e1 : paperOk (.tup [w, v, p, r]) = false := by
          show (inPapers w && _ && _) = _
          rw [(Bool.not_eq_true _).mp hp]; rfl
        by_cases hw : isStr w = true
        · cases w <;> first | (cases hw; done) | skip
          rename_i z
          have hin : evCmp .notin S (.str z) (.dct papers) = some true := by
            show (some (papers.any fun p => p.1 == z)).map _ = _
            rw [show (papers.any fun p => p.1 == z) = false from (Bool.not_eq_true _).mp hp]; rfl
          simp [cfg_call, cfg_N, ev_var, ev_non, ev_bl, ev_int, ev_str, ev_glb, ev_bin, ev_neg, ev_no, ev_cmp, ev_chain, ev_isN, ev_and, ev_or, ev_ife, ev_call, ev_bi, ev_isi, ev_me, ev_repl, ev_lm, ev_idx, ev_slc, ev_rev, ev_tup, ev_lstF, ev_lstT, ev_dct, es_nil, es_cons, eo_none, eo_some, ss_nil, ss_cons, s_asg, s_asgc, s_par2, s_par3, s_aug, s_sset, s_xpr, s_ifs, s_ret, s_raise, s_try, it_of, it_rng1, eb_none, eb_some, b_ok, b_exc, t_ok, t_exc, r_some, RS.next, bindTg, List.getElem?_cons_zero, List.getElem?_cons_succ, List.set_cons_zero, List.set_cons_succ, f9, startE, isTy, isNon, hl, i0, glb3, hin, evCmp_ne4, e1]
        · have ow := m w (by simp)
          cases w <;> first | (exact Bool.noConfusion (show false = true from ow)) | (exact absurd rfl hw) | (simp [cfg_call, cfg_N, ev_var, ev_non, ev_bl, ev_int, ev_str, ev_glb, ev_bin, ev_neg, ev_no, ev_cmp, ev_chain, ev_isN, ev_and, ev_or, ev_ife, ev_call, ev_bi, ev_isi, ev_me, ev_repl, ev_lm, ev_idx, ev_slc, ev_rev, ev_tup, ev_lstF, ev_lstT, ev_dct, es_nil, es_cons, eo_none, eo_some, ss_nil, ss_cons, s_asg, s_asgc, s_par2, s_par3, s_aug, s_sset, s_xpr, s_ifs, s_ret, s_raise, s_try, it_of, it_rng1, eb_none, eb_some, b_ok, b_exc, t_ok, t_exc, r_some, RS.next, bindTg, List.getElem?_cons_zero, List.getElem?_cons_succ, List.set_cons_zero, List.set_cons_succ, f9, startE, isTy, asL, isNon, hl, i0, evCmp_ne4, e1])
    · have e1 : paperOk (.tup ds) = false := by
        unfold paperOk
        split
        · rename_i q; cases q
        · rename_i q; cases q; exact absurd ⟨_, _, _, _, rfl⟩ h4
        · rfl
      have hl : evBi .len S [.tup ds] = some (.int ds.length) := rfl
      have hn : evCmp .ne S (.int ds.length) (.int 4) = some true := by
        have : ¬ ((ds.length : Int) = 4) := by
          intro q
          apply h4
          match ds, q with
          | [w, v, p, r], _ => exact ⟨w, v, p, r, rfl⟩
          | [], q => simp at q
          | [_], q => simp at q
          | [_, _], q => simp at q
          | [_, _, _], q => simp at q
          | _ :: _ :: _ :: _ :: _ :: _, q => simp at q; omega
        show (evEq S (.int ds.length) (.int 4)).map _ = _
        rw [eqI]
        simp [this]
      simp [cfg_call, cfg_N, ev_var, ev_non, ev_bl, ev_int, ev_str, ev_glb, ev_bin, ev_neg, ev_no, ev_cmp, ev_chain, ev_isN, ev_and, ev_or, ev_ife, ev_call, ev_bi, ev_isi, ev_me, ev_repl, ev_lm, ev_idx, ev_slc, ev_rev, ev_tup, ev_lstF, ev_lstT, ev_dct, es_nil, es_cons, eo_none, eo_some, ss_nil, ss_cons, s_asg, s_asgc, s_par2, s_par3, s_aug, s_sset, s_xpr, s_ifs, s_ret, s_raise, s_try, it_of, it_rng1, eb_none, eb_some, b_ok, b_exc, t_ok, t_exc, r_some, RS.next, bindTg, List.getElem?_cons_zero, List.getElem?_cons_succ, List.set_cons_zero, List.set_cons_succ, f9, startE, isTy, isNon, hl, hn, e1]
  | _ => first | (exact Bool.noConfusion (show false = true from h)) | (simp [cfg_call, cfg_N, ev_var, ev_non, ev_bl, ev_int, ev_str, ev_glb, ev_bin, ev_neg, ev_no, ev_cmp, ev_chain, ev_isN, ev_and, ev_or, ev_ife, ev_call, ev_bi, ev_isi, ev_me, ev_repl, ev_lm, ev_idx, ev_slc, ev_rev, ev_tup, ev_lstF, ev_lstT, ev_dct, es_nil, es_cons, eo_none, eo_some, ss_nil, ss_cons, s_asg, s_asgc, s_par2, s_par3, s_aug, s_sset, s_xpr, s_ifs, s_ret, s_raise, s_try, it_of, it_rng1, eb_none, eb_some, b_ok, b_exc, t_ok, t_exc, r_some, RS.next, bindTg, List.getElem?_cons_zero, List.getElem?_cons_succ, List.set_cons_zero, List.set_cons_succ, f9, startE, isTy, asL, paperOk, isNon])
def isPair : D → Bool
  | .tup [_, _] => true
  | _ => false
def partOk : D → Bool
  | .tup [a, b] => areNums a && paperOk b
  | _ => false
def answerOk : D → Bool
  | .tup [.bl _, .tup ps] => ps.all isPair && ps.all partOk
  | _ => false
theorem len2 (ds : List D) (h : ∀ a b, ds ≠ [a, b]) : evCmp .ne S (.int ds.length) (.int 2) = some true ∧ evCmp .eq S (.int ds.length) (.int 2) = some false := by
  have : ¬ ((ds.length : Int) = 2) := by
    intro q
    match ds, q with
    | [w, v], _ => exact h w v rfl
    | [], q => simp at q
    | [_], q => simp at q
    | _ :: _ :: _ :: _, q => simp at q; omega
  constructor
  · show (evEq S (.int ds.length) (.int 2)).map _ = _
    rw [eqI]
    simp [this]
  · show (evEq S (.int ds.length) (.int 2)) = _
    rw [eqI]
    simp [this]
theorem pair_elt {c : Cfg} {v x : D} (h : okD x = true) : evE c (.and (.isi (.var 1) .tup) (.cmp .eq (.bi .len (.cons (.var 1) .nil)) (.int 2))) [some v, some x] S = .ok (.bl (isPair x)) S := by
  cases x with
  | tup ds =>
    have hl : evBi .len S [.tup ds] = some (.int ds.length) := rfl
    by_cases q : ∃ a b, ds = [a, b]
    · obtain ⟨a, b, rfl⟩ := q
      simp [cfg_call, cfg_N, ev_var, ev_non, ev_bl, ev_int, ev_str, ev_glb, ev_bin, ev_neg, ev_no, ev_cmp, ev_chain, ev_isN, ev_and, ev_or, ev_ife, ev_call, ev_bi, ev_isi, ev_me, ev_repl, ev_lm, ev_idx, ev_slc, ev_rev, ev_tup, ev_lstF, ev_lstT, ev_dct, es_nil, es_cons, eo_none, eo_some, ss_nil, ss_cons, s_asg, s_asgc, s_par2, s_par3, s_aug, s_sset, s_xpr, s_ifs, s_ret, s_raise, s_try, it_of, it_rng1, eb_none, eb_some, b_ok, b_exc, t_ok, t_exc, r_some, RS.next, bindTg, List.getElem?_cons_zero, List.getElem?_cons_succ, List.set_cons_zero, List.set_cons_succ, isTy, evBi, asQ, evCmp, eqI, isPair]
    · have e1 : isPair (.tup ds) = false := by
        unfold isPair
        split
        · rename_i z; cases z; exact absurd ⟨_, _, rfl⟩ q
        · rfl
      have := (len2 (S := S) ds fun a b z => q ⟨a, b, z⟩).2
      simp [cfg_call, cfg_N, ev_var, ev_non, ev_bl, ev_int, ev_str, ev_glb, ev_bin, ev_neg, ev_no, ev_cmp, ev_chain, ev_isN, ev_and, ev_or, ev_ife, ev_call, ev_bi, ev_isi, ev_me, ev_repl, ev_lm, ev_idx, ev_slc, ev_rev, ev_tup, ev_lstF, ev_lstT, ev_dct, es_nil, es_cons, eo_none, eo_some, ss_nil, ss_cons, s_asg, s_asgc, s_par2, s_par3, s_aug, s_sset, s_xpr, s_ifs, s_ret, s_raise, s_try, it_of, it_rng1, eb_none, eb_some, b_ok, b_exc, t_ok, t_exc, r_some, RS.next, bindTg, List.getElem?_cons_zero, List.getElem?_cons_succ, List.set_cons_zero, List.set_cons_succ, isTy, hl, this, e1]
  | _ => first | (exact Bool.noConfusion (show false = true from h)) | (simp [cfg_call, cfg_N, ev_var, ev_non, ev_bl, ev_int, ev_str, ev_glb, ev_bin, ev_neg, ev_no, ev_cmp, ev_chain, ev_isN, ev_and, ev_or, ev_ife, ev_call, ev_bi, ev_isi, ev_me, ev_repl, ev_lm, ev_idx, ev_slc, ev_rev, ev_tup, ev_lstF, ev_lstT, ev_dct, es_nil, es_cons, eo_none, eo_some, ss_nil, ss_cons, s_asg, s_asgc, s_par2, s_par3, s_aug, s_sset, s_xpr, s_ifs, s_ret, s_raise, s_try, it_of, it_rng1, eb_none, eb_some, b_ok, b_exc, t_ok, t_exc, r_some, RS.next, bindTg, List.getElem?_cons_zero, List.getElem?_cons_succ, List.set_cons_zero, List.set_cons_succ, isTy, asL, isPair])
theorem has_answer_form_ev (hM : 10 ^ 4100 ≤ M) (d : D) (h : okD d = true) : callN txt.prog M (k + 6) 10 [d] S = .ok (.bl (answerOk d)) S := by
  refine call_ret (d := f10) rfl rfl ⟨[some d, none], ?_⟩
  cases d with
  | tup ds =>
    obtain ⟨h1, h2⟩ := ok_tup h
    have m := okDs_mem h1
    have hl : evBi .len S [.tup ds] = some (.int ds.length) := rfl
    by_cases q : ∃ a b, ds = [a, b]
    · obtain ⟨a, b, rfl⟩ := q
      have i0 : evIdx S (.tup [a, b]) (.int 0) = some a := rfl
      have i1 : evIdx S (.tup [a, b]) (.int 1) = some b := rfl
      have l2 : evBi .len S [.tup [a, b]] = some (.int 2) := rfl
      have n2 : evCmp .ne S (.int 2) (.int 2) = some false := by
        show (evEq S (.int 2) (.int 2)).map _ = _
        rw [eqI]; rfl
      have oa := m a (by simp)
      have ob := m b (by simp)
      cases a <;> first
        | (exact Bool.noConfusion (show false = true from oa))
        | (simp [cfg_call, cfg_N, ev_var, ev_non, ev_bl, ev_int, ev_str, ev_glb, ev_bin, ev_neg, ev_no, ev_cmp, ev_chain, ev_isN, ev_and, ev_or, ev_ife, ev_call, ev_bi, ev_isi, ev_me, ev_repl, ev_lm, ev_idx, ev_slc, ev_rev, ev_tup, ev_lstF, ev_lstT, ev_dct, es_nil, es_cons, eo_none, eo_some, ss_nil, ss_cons, s_asg, s_asgc, s_par2, s_par3, s_aug, s_sset, s_xpr, s_ifs, s_ret, s_raise, s_try, it_of, it_rng1, eb_none, eb_some, b_ok, b_exc, t_ok, t_exc, r_some, RS.next, bindTg, List.getElem?_cons_zero, List.getElem?_cons_succ, List.set_cons_zero, List.set_cons_succ, f10, startE, isTy, asL, l2, i0, i1, n2, answerOk]; done)
        | skip
      rename_i bb
      cases b with
      | tup ps =>
        obtain ⟨g1, g2⟩ := ok_tup ob
        have mp := okDs_mem g1
        have hp := comp_tup (c := cfgN txt.prog M (k + 5)) (env := [some (.tup [.bl bb, .tup ps]), none]) (S := S) (src := .idx (.var 0) (.int 1)) (elt := .and (.isi (.var 1) .tup) (.cmp .eq (.bi .len (.cons (.var 1) .nil)) (.int 2))) (i := 1) (own := [1]) (ds := ps) (g := fun d => .bl (isPair d))
          (by simp [cfg_call, cfg_N, ev_var, ev_non, ev_bl, ev_int, ev_str, ev_glb, ev_bin, ev_neg, ev_no, ev_cmp, ev_chain, ev_isN, ev_and, ev_or, ev_ife, ev_call, ev_bi, ev_isi, ev_me, ev_repl, ev_lm, ev_idx, ev_slc, ev_rev, ev_tup, ev_lstF, ev_lstT, ev_dct, es_nil, es_cons, eo_none, eo_some, ss_nil, ss_cons, s_asg, s_asgc, s_par2, s_par3, s_aug, s_sset, s_xpr, s_ifs, s_ret, s_raise, s_try, it_of, it_rng1, eb_none, eb_some, b_ok, b_exc, t_ok, t_exc, r_some, RS.next, bindTg, List.getElem?_cons_zero, List.getElem?_cons_succ, List.set_cons_zero, List.set_cons_succ, i1]) (le_size g2) (fun x hx => pair_elt (mp x hx))
        by_cases hall : ps.all isPair = true
        · have hq := comp_tup (c := cfgN txt.prog M (k + 5)) (env := [some (.tup [.bl bb, .tup ps]), none]) (S := S) (src := .idx (.var 0) (.int 1)) (elt := .and (.call 6 (.cons (.idx (.var 1) (.int 0)) .nil)) (.call 9 (.cons (.idx (.var 1) (.int 1)) .nil))) (i := 1) (own := [1]) (ds := ps) (g := fun d => .bl (partOk d))
            (by simp [cfg_call, cfg_N, ev_var, ev_non, ev_bl, ev_int, ev_str, ev_glb, ev_bin, ev_neg, ev_no, ev_cmp, ev_chain, ev_isN, ev_and, ev_or, ev_ife, ev_call, ev_bi, ev_isi, ev_me, ev_repl, ev_lm, ev_idx, ev_slc, ev_rev, ev_tup, ev_lstF, ev_lstT, ev_dct, es_nil, es_cons, eo_none, eo_some, ss_nil, ss_cons, s_asg, s_asgc, s_par2, s_par3, s_aug, s_sset, s_xpr, s_ifs, s_ret, s_raise, s_try, it_of, it_rng1, eb_none, eb_some, b_ok, b_exc, t_ok, t_exc, r_some, RS.next, bindTg, List.getElem?_cons_zero, List.getElem?_cons_succ, List.set_cons_zero, List.set_cons_succ, i1]) (le_size g2) (fun x hx => by
              have px := List.all_eq_true.mp hall x hx
              have ox := mp x hx
              cases x <;> try (cases px; done)
              rename_i xs
              obtain ⟨u, v, rfl⟩ : ∃ u v, xs = [u, v] := by
                match xs, px with
                | [u, v], _ => exact ⟨u, v, rfl⟩
              have mx := okDs_mem (ok_tup ox).1
              have j0 : evIdx S (.tup [u, v]) (.int 0) = some u := rfl
              have j1 : evIdx S (.tup [u, v]) (.int 1) = some v := rfl
              have c1 := are_numbers_ev (M := M) (k := k + 3) (S := S) u (mx u (by simp))
              have c2 := has_paper_form_ev (M := M) (k := k) (S := S) hM v (mx v (by simp))
              cases z : areNums u <;> simp [cfg_call, cfg_N, ev_var, ev_non, ev_bl, ev_int, ev_str, ev_glb, ev_bin, ev_neg, ev_no, ev_cmp, ev_chain, ev_isN, ev_and, ev_or, ev_ife, ev_call, ev_bi, ev_isi, ev_me, ev_repl, ev_lm, ev_idx, ev_slc, ev_rev, ev_tup, ev_lstF, ev_lstT, ev_dct, es_nil, es_cons, eo_none, eo_some, ss_nil, ss_cons, s_asg, s_asgc, s_par2, s_par3, s_aug, s_sset, s_xpr, s_ifs, s_ret, s_raise, s_try, it_of, it_rng1, eb_none, eb_some, b_ok, b_exc, t_ok, t_exc, r_some, RS.next, bindTg, List.getElem?_cons_zero, List.getElem?_cons_succ, List.set_cons_zero, List.set_cons_succ, wipeE, j0, j1, c1, c2, z, partOk])
          have e1 : answerOk (.tup [.bl bb, .tup ps]) = ps.all partOk := by
            show (ps.all isPair && ps.all partOk) = _
            rw [hall, Bool.true_and]
          have ap := all_bl (S := S) (g := isPair) ps
          rw [hall] at ap
          simp [cfg_call, cfg_N, ev_var, ev_non, ev_bl, ev_int, ev_str, ev_glb, ev_bin, ev_neg, ev_no, ev_cmp, ev_chain, ev_isN, ev_and, ev_or, ev_ife, ev_call, ev_bi, ev_isi, ev_me, ev_repl, ev_lm, ev_idx, ev_slc, ev_rev, ev_tup, ev_lstF, ev_lstT, ev_dct, es_nil, es_cons, eo_none, eo_some, ss_nil, ss_cons, s_asg, s_asgc, s_par2, s_par3, s_aug, s_sset, s_xpr, s_ifs, s_ret, s_raise, s_try, it_of, it_rng1, eb_none, eb_some, b_ok, b_exc, t_ok, t_exc, r_some, RS.next, bindTg, List.getElem?_cons_zero, List.getElem?_cons_succ, List.set_cons_zero, List.set_cons_succ, f10, startE, isTy, l2, i0, i1, n2, hp, hq, ap, all_bl, e1]
        · have e1 : answerOk (.tup [.bl bb, .tup ps]) = false := by
            show (ps.all isPair && ps.all partOk) = _
            rw [(Bool.not_eq_true _).mp hall, Bool.false_and]
          have ap := all_bl (S := S) (g := isPair) ps
          rw [(Bool.not_eq_true _).mp hall] at ap
          simp [cfg_call, cfg_N, ev_var, ev_non, ev_bl, ev_int, ev_str, ev_glb, ev_bin, ev_neg, ev_no, ev_cmp, ev_chain, ev_isN, ev_and, ev_or, ev_ife, ev_call, ev_bi, ev_isi, ev_me, ev_repl, ev_lm, ev_idx, ev_slc, ev_rev, ev_tup, ev_lstF, ev_lstT, ev_dct, es_nil, es_cons, eo_none, eo_some, ss_nil, ss_cons, s_asg, s_asgc, s_par2, s_par3, s_aug, s_sset, s_xpr, s_ifs, s_ret, s_raise, s_try, it_of, it_rng1, eb_none, eb_some, b_ok, b_exc, t_ok, t_exc, r_some, RS.next, bindTg, List.getElem?_cons_zero, List.getElem?_cons_succ, List.set_cons_zero, List.set_cons_succ, f10, startE, isTy, l2, i0, i1, n2, hp, ap, e1]
      | _ => first | (exact Bool.noConfusion (show false = true from ob)) | (simp [cfg_call, cfg_N, ev_var, ev_non, ev_bl, ev_int, ev_str, ev_glb, ev_bin, ev_neg, ev_no, ev_cmp, ev_chain, ev_isN, ev_and, ev_or, ev_ife, ev_call, ev_bi, ev_isi, ev_me, ev_repl, ev_lm, ev_idx, ev_slc, ev_rev, ev_tup, ev_lstF, ev_lstT, ev_dct, es_nil, es_cons, eo_none, eo_some, ss_nil, ss_cons, s_asg, s_asgc, s_par2, s_par3, s_aug, s_sset, s_xpr, s_ifs, s_ret, s_raise, s_try, it_of, it_rng1, eb_none, eb_some, b_ok, b_exc, t_ok, t_exc, r_some, RS.next, bindTg, List.getElem?_cons_zero, List.getElem?_cons_succ, List.set_cons_zero, List.set_cons_succ, f10, startE, isTy, asL, l2, i0, i1, n2, answerOk])
    · have e1 : answerOk (.tup ds) = false := by
        unfold answerOk
        split
        · rename_i z; cases z; exact absurd ⟨_, _, rfl⟩ q
        · rfl
      have := (len2 (S := S) ds fun a b z => q ⟨a, b, z⟩).1
      simp [cfg_call, cfg_N, ev_var, ev_non, ev_bl, ev_int, ev_str, ev_glb, ev_bin, ev_neg, ev_no, ev_cmp, ev_chain, ev_isN, ev_and, ev_or, ev_ife, ev_call, ev_bi, ev_isi, ev_me, ev_repl, ev_lm, ev_idx, ev_slc, ev_rev, ev_tup, ev_lstF, ev_lstT, ev_dct, es_nil, es_cons, eo_none, eo_some, ss_nil, ss_cons, s_asg, s_asgc, s_par2, s_par3, s_aug, s_sset, s_xpr, s_ifs, s_ret, s_raise, s_try, it_of, it_rng1, eb_none, eb_some, b_ok, b_exc, t_ok, t_exc, r_some, RS.next, bindTg, List.getElem?_cons_zero, List.getElem?_cons_succ, List.set_cons_zero, List.set_cons_succ, f10, startE, isTy, hl, this, e1]
  | _ => first | (exact Bool.noConfusion (show false = true from h)) | (simp [cfg_call, cfg_N, ev_var, ev_non, ev_bl, ev_int, ev_str, ev_glb, ev_bin, ev_neg, ev_no, ev_cmp, ev_chain, ev_isN, ev_and, ev_or, ev_ife, ev_call, ev_bi, ev_isi, ev_me, ev_repl, ev_lm, ev_idx, ev_slc, ev_rev, ev_tup, ev_lstF, ev_lstT, ev_dct, es_nil, es_cons, eo_none, eo_some, ss_nil, ss_cons, s_asg, s_asgc, s_par2, s_par3, s_aug, s_sset, s_xpr, s_ifs, s_ret, s_raise, s_try, it_of, it_rng1, eb_none, eb_some, b_ok, b_exc, t_ok, t_exc, r_some, RS.next, bindTg, List.getElem?_cons_zero, List.getElem?_cons_succ, List.set_cons_zero, List.set_cons_succ, f10, startE, isTy, asL, answerOk])
end
end K54

set_option linter.all false
set_option maxRecDepth 100000
set_option maxHeartbeats 1000000
set_option exponentiation.threshold 20000
namespace K54
open PySem MP
section
variable {M k : Nat} {S : Sto}
mutual
/-- .. with ints that may be divided by -/
def smD : D → Bool
  | .non => true
  | .bl _ => true
  | .int i => decide (i.natAbs < 10 ^ 2000)
  | .str _ => true
  | .tup ds => smDs ds && decide (ds.length ≤ 100000)
  | .lst ds => smDs ds && decide (ds.length ≤ 100000)
  | _ => false
def smDs : List D → Bool
  | [] => true
  | d :: ds => smD d && smDs ds
end
theorem smDs_mem : ∀ {ds : List D}, smDs ds = true → ∀ d ∈ ds, smD d = true
  | [], _, _, h => by cases h
  | x :: xs, h, d, hd => by
    unfold smDs at h
    rw [Bool.and_eq_true] at h
    rcases List.mem_cons.mp hd with rfl | hd
    · exact h.1
    · exact smDs_mem h.2 d hd
theorem sm_tup {ds : List D} (h : smD (.tup ds) = true) : smDs ds = true ∧ ds.length ≤ 100000 := by
  unfold smD at h; rw [Bool.and_eq_true, decide_eq_true_eq] at h; exact h
theorem sm_int {i : Int} (h : smD (.int i) = true) : i.natAbs < 10 ^ 2000 := of_decide_eq_true h
def intIn (lo hi : Int) : D → Bool
  | .int i => decide (lo ≤ i) && decide (i < hi)
  | _ => false
theorem law_int_ev (d : D) (lo hi : Int) (h : smD d = true) : callN txt.prog M (k + 1) 30 [d, .int lo, .int hi] S = .ok (.bl (intIn lo hi d)) S := by
  refine call_ret (d := f30) rfl rfl ⟨[some d, some (.int lo), some (.int hi)], ?_⟩
  cases d <;> first
    | (exact Bool.noConfusion (show false = true from h))
    | (simp [cfg_call, cfg_N, ev_var, ev_non, ev_bl, ev_int, ev_str, ev_glb, ev_bin, ev_neg, ev_no, ev_cmp, ev_chain, ev_isN, ev_and, ev_or, ev_ife, ev_call, ev_bi, ev_isi, ev_me, ev_repl, ev_lm, ev_idx, ev_slc, ev_rev, ev_tup, ev_lstF, ev_lstT, ev_dct, es_nil, es_cons, eo_none, eo_some, ss_nil, ss_cons, s_asg, s_asgc, s_par2, s_par3, s_aug, s_sset, s_xpr, s_ifs, s_ret, s_raise, s_try, it_of, it_rng1, eb_none, eb_some, b_ok, b_exc, t_ok, t_exc, r_some, RS.next, bindTg, List.getElem?_cons_zero, List.getElem?_cons_succ, List.set_cons_zero, List.set_cons_succ, f30, startE, isTy, asL, intIn]; done)
    | (rename_i i
       by_cases h0 : lo ≤ i
       · simp [cfg_call, cfg_N, ev_var, ev_non, ev_bl, ev_int, ev_str, ev_glb, ev_bin, ev_neg, ev_no, ev_cmp, ev_chain, ev_isN, ev_and, ev_or, ev_ife, ev_call, ev_bi, ev_isi, ev_me, ev_repl, ev_lm, ev_idx, ev_slc, ev_rev, ev_tup, ev_lstF, ev_lstT, ev_dct, es_nil, es_cons, eo_none, eo_some, ss_nil, ss_cons, s_asg, s_asgc, s_par2, s_par3, s_aug, s_sset, s_xpr, s_ifs, s_ret, s_raise, s_try, it_of, it_rng1, eb_none, eb_some, b_ok, b_exc, t_ok, t_exc, r_some, RS.next, bindTg, List.getElem?_cons_zero, List.getElem?_cons_succ, List.set_cons_zero, List.set_cons_succ, f30, startE, isTy, evCmp, intIn, h0]
       · simp [cfg_call, cfg_N, ev_var, ev_non, ev_bl, ev_int, ev_str, ev_glb, ev_bin, ev_neg, ev_no, ev_cmp, ev_chain, ev_isN, ev_and, ev_or, ev_ife, ev_call, ev_bi, ev_isi, ev_me, ev_repl, ev_lm, ev_idx, ev_slc, ev_rev, ev_tup, ev_lstF, ev_lstT, ev_dct, es_nil, es_cons, eo_none, eo_some, ss_nil, ss_cons, s_asg, s_asgc, s_par2, s_par3, s_aug, s_sset, s_xpr, s_ifs, s_ret, s_raise, s_try, it_of, it_rng1, eb_none, eb_some, b_ok, b_exc, t_ok, t_exc, r_some, RS.next, bindTg, List.getElem?_cons_zero, List.getElem?_cons_succ, List.set_cons_zero, List.set_cons_succ, f30, startE, isTy, evCmp, intIn, h0])
theorem law_are_numbers_ev (d : D) (h : smD d = true) : callN txt.prog M (k + 2) 32 [d] S = .ok (.bl (areNums d)) S := by
  refine call_ret (d := f32) rfl rfl ⟨[some d, none], ?_⟩
  cases d with
  | tup ds =>
    obtain ⟨h1, h2⟩ := sm_tup h
    have m := smDs_mem h1
    have ha := comp_tup (c := cfgN txt.prog M (k + 1)) (env := [some (.tup ds), none]) (S := S) (src := .var 0) (elt := .call 30 (.cons (.var 1) (.cons (.int 0) (.cons (.int 1000) .nil)))) (i := 1) (own := [1]) (ds := ds) (g := fun x => .bl (numOk x))
      (by simp [cfg_call, cfg_N, ev_var, ev_non, ev_bl, ev_int, ev_str, ev_glb, ev_bin, ev_neg, ev_no, ev_cmp, ev_chain, ev_isN, ev_and, ev_or, ev_ife, ev_call, ev_bi, ev_isi, ev_me, ev_repl, ev_lm, ev_idx, ev_slc, ev_rev, ev_tup, ev_lstF, ev_lstT, ev_dct, es_nil, es_cons, eo_none, eo_some, ss_nil, ss_cons, s_asg, s_asgc, s_par2, s_par3, s_aug, s_sset, s_xpr, s_ifs, s_ret, s_raise, s_try, it_of, it_rng1, eb_none, eb_some, b_ok, b_exc, t_ok, t_exc, r_some, RS.next, bindTg, List.getElem?_cons_zero, List.getElem?_cons_succ, List.set_cons_zero, List.set_cons_succ, ss_nil]) (le_size h2) (fun x hx => by
        have wx := law_int_ev (M := M) (k := k) (S := S) x 0 1000 (m x hx)
        have e : intIn 0 1000 x = numOk x := by
          cases x <;> first | rfl | skip
          rename_i i
          show (decide (0 ≤ i) && decide (i < 1000)) = (decide (0 ≤ i) && decide (i ≤ 999))
          congr 1
          rw [decide_eq_decide]; omega
        simp [cfg_call, cfg_N, ev_var, ev_non, ev_bl, ev_int, ev_str, ev_glb, ev_bin, ev_neg, ev_no, ev_cmp, ev_chain, ev_isN, ev_and, ev_or, ev_ife, ev_call, ev_bi, ev_isi, ev_me, ev_repl, ev_lm, ev_idx, ev_slc, ev_rev, ev_tup, ev_lstF, ev_lstT, ev_dct, es_nil, es_cons, eo_none, eo_some, ss_nil, ss_cons, s_asg, s_asgc, s_par2, s_par3, s_aug, s_sset, s_xpr, s_ifs, s_ret, s_raise, s_try, it_of, it_rng1, eb_none, eb_some, b_ok, b_exc, t_ok, t_exc, r_some, RS.next, bindTg, List.getElem?_cons_zero, List.getElem?_cons_succ, List.set_cons_zero, List.set_cons_succ, wipeE, wx, e])
    simp [cfg_call, cfg_N, ev_var, ev_non, ev_bl, ev_int, ev_str, ev_glb, ev_bin, ev_neg, ev_no, ev_cmp, ev_chain, ev_isN, ev_and, ev_or, ev_ife, ev_call, ev_bi, ev_isi, ev_me, ev_repl, ev_lm, ev_idx, ev_slc, ev_rev, ev_tup, ev_lstF, ev_lstT, ev_dct, es_nil, es_cons, eo_none, eo_some, ss_nil, ss_cons, s_asg, s_asgc, s_par2, s_par3, s_aug, s_sset, s_xpr, s_ifs, s_ret, s_raise, s_try, it_of, it_rng1, eb_none, eb_some, b_ok, b_exc, t_ok, t_exc, r_some, RS.next, bindTg, List.getElem?_cons_zero, List.getElem?_cons_succ, List.set_cons_zero, List.set_cons_succ, f32, startE, isTy, ha, all_bl, areNums]
  | _ => first | (exact Bool.noConfusion (show false = true from h)) | (simp [cfg_call, cfg_N, ev_var, ev_non, ev_bl, ev_int, ev_str, ev_glb, ev_bin, ev_neg, ev_no, ev_cmp, ev_chain, ev_isN, ev_and, ev_or, ev_ife, ev_call, ev_bi, ev_isi, ev_me, ev_repl, ev_lm, ev_idx, ev_slc, ev_rev, ev_tup, ev_lstF, ev_lstT, ev_dct, es_nil, es_cons, eo_none, eo_some, ss_nil, ss_cons, s_asg, s_asgc, s_par2, s_par3, s_aug, s_sset, s_xpr, s_ifs, s_ret, s_raise, s_try, it_of, it_rng1, eb_none, eb_some, b_ok, b_exc, t_ok, t_exc, r_some, RS.next, bindTg, List.getElem?_cons_zero, List.getElem?_cons_succ, List.set_cons_zero, List.set_cons_succ, f32, startE, isTy, asL, areNums])
theorem gcd_bound {a b : Nat} (hb : 0 < b) (h : b < 10 ^ 2000) : ((Nat.gcd a b : Nat) : Int).natAbs.log2 < 8999 := by
  rw [Int.natAbs_natCast]
  have h1 : Nat.gcd a b ≤ b := Nat.gcd_le_right a hb
  have h0 : Nat.gcd a b ≠ 0 := Nat.pos_iff_ne_zero.mp (Nat.gcd_pos_of_pos_right a hb)
  have h2 := log10 2000
  have h3 : (Nat.gcd a b).log2 < 8001 := by
    rw [Nat.log2_lt h0]
    have : (10 : Nat) ^ 2000 ≤ 2 ^ 8001 := by decide +kernel
    omega
  omega
theorem law_lowest_ev (hM : 10 ^ 4100 ≤ M) (a b : Nat) (hb : 0 < b) (h : b < 10 ^ 2000) : callN txt.prog M (k + 1) 27 [.int a, .int b] S = .ok (.tup [.int ((a : Int) / (Nat.gcd a b : Nat)), .int ((b : Int) / (Nat.gcd a b : Nat))]) S := by
  obtain ⟨e, he⟩ := whl_gcd2 (S := S) (x := some (.int a)) (y := some (.int b)) (c := fun env S => evE (cfgN txt.prog M k) (.cmp .ne (.var 3) (.int 0)) env S) (f := fun env S => evSs (cfgN txt.prog M k) (.cons (.par2 2 3 (.var 3) (.bin .mod (.bi .int (.cons (.var 2) .nil)) (.var 3))) .nil) env S)
    (fun a b => by simp [cfg_call, cfg_N, ev_var, ev_non, ev_bl, ev_int, ev_str, ev_glb, ev_bin, ev_neg, ev_no, ev_cmp, ev_chain, ev_isN, ev_and, ev_or, ev_ife, ev_call, ev_bi, ev_isi, ev_me, ev_repl, ev_lm, ev_idx, ev_slc, ev_rev, ev_tup, ev_lstF, ev_lstT, ev_dct, es_nil, es_cons, eo_none, eo_some, ss_nil, ss_cons, s_asg, s_asgc, s_par2, s_par3, s_aug, s_sset, s_xpr, s_ifs, s_ret, s_raise, s_try, it_of, it_rng1, eb_none, eb_some, b_ok, b_exc, t_ok, t_exc, r_some, RS.next, bindTg, List.getElem?_cons_zero, List.getElem?_cons_succ, List.set_cons_zero, List.set_cons_succ, evCmp, eqI]) (fun a b hb => by simp [cfg_call, cfg_N, ev_var, ev_non, ev_bl, ev_int, ev_str, ev_glb, ev_bin, ev_neg, ev_no, ev_cmp, ev_chain, ev_isN, ev_and, ev_or, ev_ife, ev_call, ev_bi, ev_isi, ev_me, ev_repl, ev_lm, ev_idx, ev_slc, ev_rev, ev_tup, ev_lstF, ev_lstT, ev_dct, es_nil, es_cons, eo_none, eo_some, ss_nil, ss_cons, s_asg, s_asgc, s_par2, s_par3, s_aug, s_sset, s_xpr, s_ifs, s_ret, s_raise, s_try, it_of, it_rng1, eb_none, eb_some, b_ok, b_exc, t_ok, t_exc, r_some, RS.next, bindTg, List.getElem?_cons_zero, List.getElem?_cons_succ, List.set_cons_zero, List.set_cons_succ, evBi, evBin, hb, fmod_nat]) M a b (by
      have : (10 : Nat) ^ 2000 ≤ 10 ^ 4100 := Nat.pow_le_pow_right (by decide) (by decide)
      omega)
  have hg : (0 : Int) < (Nat.gcd a b : Nat) := by have := Nat.gcd_pos_of_pos_right a hb; omega
  have gb := gcd_bound (a := a) hb h
  have d1 : ∀ i : Int, evBin .fdiv S (.int i) (.int (Nat.gcd a b : Nat)) = some (.int (i / (Nat.gcd a b : Nat))) := fun i => by
    unfold evBin
    dsimp only
    rw [if_pos ⟨hg, gb⟩]
  generalize hgg : ((Nat.gcd a b : Nat) : Int) = g at *
  refine call_ret (d := f27) rfl rfl ⟨[some (.int a), some (.int b), some (.int g), some e], ?_⟩
  have h1 : evS (cfgN txt.prog M k) (.par2 2 3 (.var 0) (.var 1)) [some (.int a), some (.int b), none, none] S = .ok .nx [some (.int a), some (.int b), some (.int a), some (.int b)] S := by simp [cfg_call, cfg_N, ev_var, ev_non, ev_bl, ev_int, ev_str, ev_glb, ev_bin, ev_neg, ev_no, ev_cmp, ev_chain, ev_isN, ev_and, ev_or, ev_ife, ev_call, ev_bi, ev_isi, ev_me, ev_repl, ev_lm, ev_idx, ev_slc, ev_rev, ev_tup, ev_lstF, ev_lstT, ev_dct, es_nil, es_cons, eo_none, eo_some, ss_nil, ss_cons, s_asg, s_asgc, s_par2, s_par3, s_aug, s_sset, s_xpr, s_ifs, s_ret, s_raise, s_try, it_of, it_rng1, eb_none, eb_some, b_ok, b_exc, t_ok, t_exc, r_some, RS.next, bindTg, List.getElem?_cons_zero, List.getElem?_cons_succ, List.set_cons_zero, List.set_cons_succ, ss_nil]
  unfold f27
  refine (ss_go h1).trans ((ss_go ((s_whl _ _).trans he)).trans ?_)
  simp [cfg_call, cfg_N, ev_var, ev_non, ev_bl, ev_int, ev_str, ev_glb, ev_bin, ev_neg, ev_no, ev_cmp, ev_chain, ev_isN, ev_and, ev_or, ev_ife, ev_call, ev_bi, ev_isi, ev_me, ev_repl, ev_lm, ev_idx, ev_slc, ev_rev, ev_tup, ev_lstF, ev_lstT, ev_dct, es_nil, es_cons, eo_none, eo_some, ss_nil, ss_cons, s_asg, s_asgc, s_par2, s_par3, s_aug, s_sset, s_xpr, s_ifs, s_ret, s_raise, s_try, it_of, it_rng1, eb_none, eb_some, b_ok, b_exc, t_ok, t_exc, r_some, RS.next, bindTg, List.getElem?_cons_zero, List.getElem?_cons_succ, List.set_cons_zero, List.set_cons_succ, evCmp, hg, d1, sizeLine_eq]
/-! ### the top of a value's numbers -/
theorem strRep_S (c : Nat) (n : Nat) : strRep (SX.S [c]) n = SX.S (List.replicate n c) := by
  have h : ∀ (n : Nat) (acc : Array Nat), (List.replicate n #[c]).foldl (· ++ ·) acc = acc ++ (List.replicate n c).toArray := by
    intro n
    induction n with
    | zero => intro acc; simp
    | succ n ih =>
      intro acc
      rw [List.replicate_succ, List.foldl_cons, ih, List.replicate_succ]
      apply Array.ext'
      simp
  unfold strRep
  have e := h n #[]
  show (⟨(List.replicate n #[c]).foldl (· ++ ·) #[]⟩ : Str) = _
  rw [e]
  simp
theorem digitsVal_zeros (n : Nat) : ∀ a : Nat, (List.replicate n 48).foldl (fun acc c => acc * 10 + (c - 48)) a = a * 10 ^ n := by
  induction n with
  | zero => intro a; simp
  | succ n ih =>
    intro a
    rw [List.replicate_succ, List.foldl_cons, ih, Nat.pow_succ]
    simp only [Nat.sub_self, Nat.add_zero]
    rw [Nat.mul_assoc, Nat.mul_comm 10]
/-- 1 and n zeros -/
def oneZ (n : Nat) : Str := SX.S (49 :: List.replicate n 48)
theorem ev_zs (T : Sto) (n : Nat) (h1 : 2 ≤ n) (h2 : n ≤ 100000) : evBin .mul T (.str "0") (.int n) = some (.str (SX.S (List.replicate n 48))) := by
  have e : strRep "0" n = SX.S (List.replicate n 48) := strRep_S 48 n
  unfold evBin
  dsimp only
  have hl : (Str.ofString "0").length = 1 := by decide
  rw [hl, if_pos ⟨by omega, by omega, by omega, by omega⟩, Int.toNat_natCast, e]
theorem ev_oneZ (T : Sto) (n : Nat) (h2 : n ≤ 100000) : evBin .add T (.str "1") (.str (SX.S (List.replicate n 48))) = some (.str (oneZ n)) := by
  have hl : (Str.ofString "1").length = 1 := by decide
  unfold evBin
  dsimp only
  rw [hl, SX.S_len, List.length_replicate, if_pos (by have := size_big; omega)]
  rw [show Str.ofString "1" = SX.S [49] from by decide, SX.S_cat]
  rfl
theorem ev_top (T : Sto) (n : Nat) (hn : n ≤ 4200) : evBi .int T [.str (oneZ n)] = some (.int ((10 ^ n : Nat) : Int)) := by
  have hall : ∀ c ∈ (49 :: List.replicate n 48 : List Nat), c = 49 ∨ c = 48 := by
    intro c hc
    rcases List.mem_cons.mp hc with h | h
    · exact .inl h
    · exact .inr (List.eq_of_mem_replicate h)
  have hlen : (oneZ n).length = n + 1 := by unfold oneZ; rw [SX.S_len, List.length_cons, List.length_replicate]
  have h1 : PySem.intText? (oneZ n) = some ((10 ^ n : Nat) : Int) := by
    have e := PySem.intText_digits (x := oneZ n) (fun c hc => by rcases hall c hc with h | h <;> omega) (by intro h; cases h) (by rw [hlen]; omega)
    refine e.trans ?_
    congr 2
    show (49 :: List.replicate n 48 : List Nat).foldl (fun acc c => acc * 10 + (c - 48)) 0 = _
    rw [List.foldl_cons, digitsVal_zeros]
    omega
  unfold evBi
  dsimp only
  rw [if_pos, h1]
  · rfl
  · refine .inr ⟨by rw [hlen]; omega, ?_⟩
    rw [← Array.all_toList, List.all_eq_true]
    intro c hc
    rcases hall c hc with h | h <;> subst h <;> decide
theorem eqPair (T : Sto) (x y i j : Int) : evCmp .eq T (.tup [.int x, .int y]) (.tup [.int i, .int j]) = some (x == i && y == j) := by
  have sh : ∀ a b : Int, SeqAt.shaped (.tuple [.int a, .int b]) = true := fun a b => rfl
  show evEqD T (.tup [.int x, .int y]) (.tup [.int i, .int j]) = _
  unfold evEqD
  have t : ∀ a b : Int, toPS T (.tup [.int a, .int b]) = some (.tuple [.int a, .int b]) := fun a b => rfl
  rw [t, t]
  dsimp only
  rw [sh, sh, Bool.and_self, if_pos rfl]
  show some ((x == i) && ((y == j) && true)) = _
  rw [Bool.and_true]
def top4 : Int := ((10 ^ 4000 : Nat) : Int)
theorem top_n (T : Sto) (n : Nat) (i : Int) (hi : i = n) (h1 : 2 ≤ n) (h2 : n ≤ 4200) : ∃ z z1, evBin .mul T (.str "0") (.int i) = some (.str z) ∧ evBin .add T (.str "1") (.str z) = some (.str z1) ∧ evBi .int T [.str z1] = some (.int ((10 ^ n : Nat) : Int)) := by
  subst hi
  exact ⟨_, _, ev_zs T n h1 (by omega), ev_oneZ T n (by omega), ev_top T n h2⟩
theorem top_ev (T : Sto) : ∃ z z1, evBin .mul T (.str "0") (.int 4000) = some (.str z) ∧ evBin .add T (.str "1") (.str z) = some (.str z1) ∧ evBi .int T [.str z1] = some (.int top4) :=
  top_n T 4000 4000 (by decide) (by decide) (by decide)
theorem sm_ok {d : Int} (h : d.natAbs < 10 ^ 2000) : d < top4 ∧ d.natAbs < 10 ^ 4000 := by
  have : (10 : Nat) ^ 2000 < 10 ^ 4000 := Nat.pow_lt_pow_right (by decide) (by decide)
  unfold top4
  generalize (10 : Nat) ^ 4000 = p at *
  generalize (10 : Nat) ^ 2000 = q at *
  omega
theorem low_eq {n m : Nat} (hm : 0 < m) : (((n : Int) / (Nat.gcd n m : Nat) == (n : Int)) && ((m : Int) / (Nat.gcd n m : Nat) == (m : Int))) = decide ((Nat.gcd n m : Int) = 1) := by
  have hg := Nat.gcd_pos_of_pos_right n hm
  rw [Bool.eq_iff_iff]
  simp only [Bool.and_eq_true, beq_iff_eq, decide_eq_true_eq]
  constructor
  · rintro ⟨_, h⟩
    have h2 : m / Nat.gcd n m = m := by exact_mod_cast h
    have h3 : Nat.gcd n m * (m / Nat.gcd n m) = m := Nat.mul_div_cancel' (Nat.gcd_dvd_right n m)
    rw [h2] at h3
    have : Nat.gcd n m = 1 := Nat.eq_of_mul_eq_mul_right hm (by omega)
    omega
  · intro h
    rw [h]
    simp
def valLaw (d : D) : Bool := isNon d || valOk d
theorem law_is_value_ev (hM : 10 ^ 4100 ≤ M) (d : D) (h : smD d = true) : callN txt.prog M (k + 2) 31 [d] S = .ok (.bl (valLaw d)) S := by
  refine call_ret (d := f31) rfl rfl ?_
  obtain ⟨z, z1, hz, ho, ht⟩ := top_ev S
  by_cases hn : isNon d = true
  · cases d <;> try (cases hn; done)
    exact ⟨[some .non, none], by simp [cfg_call, cfg_N, ev_var, ev_non, ev_bl, ev_int, ev_str, ev_glb, ev_bin, ev_neg, ev_no, ev_cmp, ev_chain, ev_isN, ev_and, ev_or, ev_ife, ev_call, ev_bi, ev_isi, ev_me, ev_repl, ev_lm, ev_idx, ev_slc, ev_rev, ev_tup, ev_lstF, ev_lstT, ev_dct, es_nil, es_cons, eo_none, eo_some, ss_nil, ss_cons, s_asg, s_asgc, s_par2, s_par3, s_aug, s_sset, s_xpr, s_ifs, s_ret, s_raise, s_try, it_of, it_rng1, eb_none, eb_some, b_ok, b_exc, t_ok, t_exc, r_some, RS.next, bindTg, List.getElem?_cons_zero, List.getElem?_cons_succ, List.set_cons_zero, List.set_cons_succ, f31, startE, isNon, valLaw]⟩
  refine ⟨[some d, some (.int top4)], ?_⟩
  have h1 : evS (cfgN txt.prog M (k + 1)) (.ifs (.isN false (.var 0)) (.cons (.ret (.bl true)) .nil) .nil) [some d, none] S = .ok .nx [some d, none] S := by
    simp [cfg_call, cfg_N, ev_var, ev_non, ev_bl, ev_int, ev_str, ev_glb, ev_bin, ev_neg, ev_no, ev_cmp, ev_chain, ev_isN, ev_and, ev_or, ev_ife, ev_call, ev_bi, ev_isi, ev_me, ev_repl, ev_lm, ev_idx, ev_slc, ev_rev, ev_tup, ev_lstF, ev_lstT, ev_dct, es_nil, es_cons, eo_none, eo_some, ss_nil, ss_cons, s_asg, s_asgc, s_par2, s_par3, s_aug, s_sset, s_xpr, s_ifs, s_ret, s_raise, s_try, it_of, it_rng1, eb_none, eb_some, b_ok, b_exc, t_ok, t_exc, r_some, RS.next, bindTg, List.getElem?_cons_zero, List.getElem?_cons_succ, List.set_cons_zero, List.set_cons_succ, hn]
  have h2 : evS (cfgN txt.prog M (k + 1)) (.asg (.nm 1) (.bi .int (.cons (.bin .add (.str "1") (.bin .mul (.str "0") (.int 4000))) .nil))) [some d, none] S = .ok .nx [some d, some (.int top4)] S := by
    simp [cfg_call, cfg_N, ev_var, ev_non, ev_bl, ev_int, ev_str, ev_glb, ev_bin, ev_neg, ev_no, ev_cmp, ev_chain, ev_isN, ev_and, ev_or, ev_ife, ev_call, ev_bi, ev_isi, ev_me, ev_repl, ev_lm, ev_idx, ev_slc, ev_rev, ev_tup, ev_lstF, ev_lstT, ev_dct, es_nil, es_cons, eo_none, eo_some, ss_nil, ss_cons, s_asg, s_asgc, s_par2, s_par3, s_aug, s_sset, s_xpr, s_ifs, s_ret, s_raise, s_try, it_of, it_rng1, eb_none, eb_some, b_ok, b_exc, t_ok, t_exc, r_some, RS.next, bindTg, List.getElem?_cons_zero, List.getElem?_cons_succ, List.set_cons_zero, List.set_cons_succ, hz, ho, ht]
  unfold f31
  refine (ss_go h1).trans ((ss_go h2).trans ?_)
  have e0 : valLaw d = valOk d := by unfold valLaw; rw [(Bool.not_eq_true _).mp hn, Bool.false_or]
  rw [e0]
  cases d with
  | tup ds =>
    obtain ⟨g1, g2⟩ := sm_tup h
    have m := smDs_mem g1
    have hl : evBi .len S [.tup ds] = some (.int ds.length) := rfl
    by_cases q : ∃ a b, ds = [a, b]
    · obtain ⟨a, b, rfl⟩ := q
      have i0 : evIdx S (.tup [a, b]) (.int 0) = some a := rfl
      have i1 : evIdx S (.tup [a, b]) (.int 1) = some b := rfl
      have l2 : evBi .len S [.tup [a, b]] = some (.int 2) := rfl
      have n2 : evCmp .ne S (.int 2) (.int 2) = some false := by
        show (evEq S (.int 2) (.int 2)).map _ = _
        rw [eqI]; rfl
      have c1 := law_int_ev (M := M) (k := k) (S := S) a 0 top4 (m a (by simp))
      have c2 := law_int_ev (M := M) (k := k) (S := S) b 1 top4 (m b (by simp))
      by_cases r1 : intIn 0 top4 a = true
      · by_cases r2 : intIn 1 top4 b = true
        · cases a <;> try (cases r1; done)
          cases b <;> try (cases r2; done)
          rename_i i j
          have s1 := sm_int (m (.int i) (by simp))
          have s2 := sm_int (m (.int j) (by simp))
          have b1 := sm_ok s1
          have b2 := sm_ok s2
          simp only [intIn, Bool.and_eq_true, decide_eq_true_eq] at r1 r2
          obtain ⟨n, rfl⟩ : ∃ n : Nat, i = n := ⟨i.toNat, by omega⟩
          obtain ⟨w, rfl⟩ : ∃ n : Nat, j = n := ⟨j.toNat, by omega⟩
          have hw : 0 < w := by omega
          rw [Int.natAbs_natCast] at s1 s2 b1 b2
          have lo := law_lowest_ev (M := M) (k := k) (S := S) hM n w hw s2
          have le := low_eq (n := n) hw
          have ep := eqPair S ((n : Int) / (Nat.gcd n w : Nat)) ((w : Int) / (Nat.gcd n w : Nat)) n w
          rw [le] at ep
          have ev : valOk (.tup [.int n, .int w]) = decide ((Nat.gcd n w : Int) = 1) := by
            have t1 : decide ((0 : Int) < w) = true := decide_eq_true (by omega)
            have t2 : decide ((0 : Int) ≤ n) = true := decide_eq_true (by omega)
            have t3 : decide ((if (n : Int) < w then (w : Int) else n).natAbs < 10 ^ 4000) = true := by
              refine decide_eq_true ?_
              split
              · rw [Int.natAbs_natCast]; exact b2.2
              · rw [Int.natAbs_natCast]; exact b1.2
            show ((decide ((0 : Int) < w) && decide ((Nat.gcd (n : Int).natAbs (w : Int).natAbs : Int) = 1)) && decide ((0 : Int) ≤ n) && decide ((if (n : Int) < w then (w : Int) else n).natAbs < 10 ^ 4000)) = _
            rw [t1, t2, t3, Bool.true_and, Bool.and_true, Bool.and_true, Int.natAbs_natCast, Int.natAbs_natCast]
          rw [ev]
          generalize decide ((Nat.gcd n w : Int) = 1) = bb at ep ⊢
          have r1' : intIn 0 top4 (.int n) = true := by simp only [intIn, Bool.and_eq_true, decide_eq_true_eq]; exact r1
          have r2' : intIn 1 top4 (.int w) = true := by simp only [intIn, Bool.and_eq_true, decide_eq_true_eq]; exact r2
          simp [cfg_call, cfg_N, ev_var, ev_non, ev_bl, ev_int, ev_str, ev_glb, ev_bin, ev_neg, ev_no, ev_cmp, ev_chain, ev_isN, ev_and, ev_or, ev_ife, ev_call, ev_bi, ev_isi, ev_me, ev_repl, ev_lm, ev_idx, ev_slc, ev_rev, ev_tup, ev_lstF, ev_lstT, ev_dct, es_nil, es_cons, eo_none, eo_some, ss_nil, ss_cons, s_asg, s_asgc, s_par2, s_par3, s_aug, s_sset, s_xpr, s_ifs, s_ret, s_raise, s_try, it_of, it_rng1, eb_none, eb_some, b_ok, b_exc, t_ok, t_exc, r_some, RS.next, bindTg, List.getElem?_cons_zero, List.getElem?_cons_succ, List.set_cons_zero, List.set_cons_succ, isTy, l2, i0, i1, n2, c1, c2, r1', r2', lo, ep]
        · have e1 : valOk (.tup [a, b]) = false := by
            cases a <;> cases b <;> first | rfl | skip
            rename_i i j
            have b2 := sm_ok (sm_int (m (.int j) (by simp)))
            have : ¬ (0 < j) := by
              intro z
              apply r2
              simp only [intIn, Bool.and_eq_true, decide_eq_true_eq]
              exact ⟨by omega, b2.1⟩
            show ((decide (0 < j) && _) && _ && _) = false
            rw [decide_eq_false this]; rfl
          simp [cfg_call, cfg_N, ev_var, ev_non, ev_bl, ev_int, ev_str, ev_glb, ev_bin, ev_neg, ev_no, ev_cmp, ev_chain, ev_isN, ev_and, ev_or, ev_ife, ev_call, ev_bi, ev_isi, ev_me, ev_repl, ev_lm, ev_idx, ev_slc, ev_rev, ev_tup, ev_lstF, ev_lstT, ev_dct, es_nil, es_cons, eo_none, eo_some, ss_nil, ss_cons, s_asg, s_asgc, s_par2, s_par3, s_aug, s_sset, s_xpr, s_ifs, s_ret, s_raise, s_try, it_of, it_rng1, eb_none, eb_some, b_ok, b_exc, t_ok, t_exc, r_some, RS.next, bindTg, List.getElem?_cons_zero, List.getElem?_cons_succ, List.set_cons_zero, List.set_cons_succ, isTy, l2, i0, i1, n2, c1, c2, r1, r2, e1]
      · have e1 : valOk (.tup [a, b]) = false := by
          cases a <;> cases b <;> first | rfl | skip
          rename_i i j
          have b1 := sm_ok (sm_int (m (.int i) (by simp)))
          have : ¬ (0 ≤ i) := by
            intro z
            apply r1
            simp only [intIn, Bool.and_eq_true, decide_eq_true_eq]
            exact ⟨z, b1.1⟩
          show (_ && decide (0 ≤ i) && _) = false
          rw [decide_eq_false this, Bool.and_false, Bool.false_and]
        simp [cfg_call, cfg_N, ev_var, ev_non, ev_bl, ev_int, ev_str, ev_glb, ev_bin, ev_neg, ev_no, ev_cmp, ev_chain, ev_isN, ev_and, ev_or, ev_ife, ev_call, ev_bi, ev_isi, ev_me, ev_repl, ev_lm, ev_idx, ev_slc, ev_rev, ev_tup, ev_lstF, ev_lstT, ev_dct, es_nil, es_cons, eo_none, eo_some, ss_nil, ss_cons, s_asg, s_asgc, s_par2, s_par3, s_aug, s_sset, s_xpr, s_ifs, s_ret, s_raise, s_try, it_of, it_rng1, eb_none, eb_some, b_ok, b_exc, t_ok, t_exc, r_some, RS.next, bindTg, List.getElem?_cons_zero, List.getElem?_cons_succ, List.set_cons_zero, List.set_cons_succ, isTy, l2, i0, i1, n2, c1, r1, e1]
    · have e1 : valOk (.tup ds) = false := by
        unfold valOk
        split
        · rename_i z; cases z; exact absurd ⟨_, _, rfl⟩ q
        · rfl
      have := (len2 (S := S) ds fun a b z => q ⟨a, b, z⟩).1
      simp [cfg_call, cfg_N, ev_var, ev_non, ev_bl, ev_int, ev_str, ev_glb, ev_bin, ev_neg, ev_no, ev_cmp, ev_chain, ev_isN, ev_and, ev_or, ev_ife, ev_call, ev_bi, ev_isi, ev_me, ev_repl, ev_lm, ev_idx, ev_slc, ev_rev, ev_tup, ev_lstF, ev_lstT, ev_dct, es_nil, es_cons, eo_none, eo_some, ss_nil, ss_cons, s_asg, s_asgc, s_par2, s_par3, s_aug, s_sset, s_xpr, s_ifs, s_ret, s_raise, s_try, it_of, it_rng1, eb_none, eb_some, b_ok, b_exc, t_ok, t_exc, r_some, RS.next, bindTg, List.getElem?_cons_zero, List.getElem?_cons_succ, List.set_cons_zero, List.set_cons_succ, isTy, hl, this, e1]
  | non => exact absurd rfl hn
  | _ => first | (exact Bool.noConfusion (show false = true from h)) | (simp [cfg_call, cfg_N, ev_var, ev_non, ev_bl, ev_int, ev_str, ev_glb, ev_bin, ev_neg, ev_no, ev_cmp, ev_chain, ev_isN, ev_and, ev_or, ev_ife, ev_call, ev_bi, ev_isi, ev_me, ev_repl, ev_lm, ev_idx, ev_slc, ev_rev, ev_tup, ev_lstF, ev_lstT, ev_dct, es_nil, es_cons, eo_none, eo_some, ss_nil, ss_cons, s_asg, s_asgc, s_par2, s_par3, s_aug, s_sset, s_xpr, s_ifs, s_ret, s_raise, s_try, it_of, it_rng1, eb_none, eb_some, b_ok, b_exc, t_ok, t_exc, r_some, RS.next, bindTg, List.getElem?_cons_zero, List.getElem?_cons_succ, List.set_cons_zero, List.set_cons_succ, isTy, asL, valOk])
end
end K54

set_option linter.all false
set_option maxRecDepth 100000
set_option maxHeartbeats 1000000
set_option exponentiation.threshold 20000
namespace K54
open PySem MP
section
variable {M k : Nat} {S : Sto}
/-! ### the law's forms -/
theorem ne_elt2 {c : Cfg} {v x : D} {e : Option D} (h : smD x = true) : evE c (.and (.isi (.var 1) .tup) (.cmp .gt (.bi .len (.cons (.var 1) .nil)) (.int 0))) [some v, some x, e] S = .ok (.bl (neTup x)) S := by
  cases x <;> first | (exact Bool.noConfusion (show false = true from h)) | (simp [cfg_call, cfg_N, ev_var, ev_non, ev_bl, ev_int, ev_str, ev_glb, ev_bin, ev_neg, ev_no, ev_cmp, ev_chain, ev_isN, ev_and, ev_or, ev_ife, ev_call, ev_bi, ev_isi, ev_me, ev_repl, ev_lm, ev_idx, ev_slc, ev_rev, ev_tup, ev_lstF, ev_lstT, ev_dct, es_nil, es_cons, eo_none, eo_some, ss_nil, ss_cons, s_asg, s_asgc, s_par2, s_par3, s_aug, s_sset, s_xpr, s_ifs, s_ret, s_raise, s_try, it_of, it_rng1, eb_none, eb_some, b_ok, b_exc, t_ok, t_exc, r_some, RS.next, bindTg, List.getElem?_cons_zero, List.getElem?_cons_succ, List.set_cons_zero, List.set_cons_succ, isTy, asL, evBi, asQ, evCmp, neTup])
def words4 : D := .lst [.str "most", .str "least", .str "gain most", .str "gain least"]
theorem notin4 (z : Str) : evCmp .notin S (.str z) words4 = some (!(papers.any fun p => p.1 == z)) := by
  show (evIn S (.str z) words4).map _ = _
  have : evIn S (.str z) words4 = some (papers.any fun p => p.1 == z) := by
    have e : inSc S (.str z) words4 = some (L2.inV (.str z) [.str "most", .str "least", .str "gain most", .str "gain least"]) := rfl
    unfold words4 at e ⊢
    unfold evIn
    dsimp only
    rw [e]
    rfl
  rw [this]; rfl
theorem law_is_paper_ev (hM : 10 ^ 4100 ≤ M) (d : D) (h : smD d = true) : callN txt.prog M (k + 3) 33 [d] S = .ok (.bl (paperOk d)) S := by
  refine call_ret (d := f33) rfl rfl ⟨[some d, none, none], ?_⟩
  cases d with
  | tup ds =>
    obtain ⟨h1, h2⟩ := sm_tup h
    have m := smDs_mem h1
    by_cases h4 : ∃ w v p r, ds = [w, v, p, r]
    · obtain ⟨w, v, p, r, rfl⟩ := h4
      have hl : evBi .len S [.tup [w, v, p, r]] = some (.int 4) := rfl
      have i0 : evIdx S (.tup [w, v, p, r]) (.int 0) = some w := rfl
      have i1 : evIdx S (.tup [w, v, p, r]) (.int 1) = some v := rfl
      have i2 : evIdx S (.tup [w, v, p, r]) (.int 2) = some p := rfl
      have i3 : evIdx S (.tup [w, v, p, r]) (.int 3) = some r := rfl
      have sl : evSlc S (.tup [w, v, p, r]) (some 1) none = some (.tup [v, p, r]) := rfl
      have ok2 := law_are_numbers_ev (M := M) (k := k) (S := S) p (m p (by simp))
      have ok3 := law_are_numbers_ev (M := M) (k := k) (S := S) r (m r (by simp))
      have ha := comp_tup (c := cfgN txt.prog M (k + 2)) (env := [some (.tup [w, v, p, r]), none, none]) (S := S) (src := .slc (.var 0) (.some (.int 1)) .none) (elt := .and (.isi (.var 1) .tup) (.cmp .gt (.bi .len (.cons (.var 1) .nil)) (.int 0))) (i := 1) (own := [1]) (ds := [v, p, r]) (g := fun d => .bl (neTup d))
        (by simp [cfg_call, cfg_N, ev_var, ev_non, ev_bl, ev_int, ev_str, ev_glb, ev_bin, ev_neg, ev_no, ev_cmp, ev_chain, ev_isN, ev_and, ev_or, ev_ife, ev_call, ev_bi, ev_isi, ev_me, ev_repl, ev_lm, ev_idx, ev_slc, ev_rev, ev_tup, ev_lstF, ev_lstT, ev_dct, es_nil, es_cons, eo_none, eo_some, ss_nil, ss_cons, s_asg, s_asgc, s_par2, s_par3, s_aug, s_sset, s_xpr, s_ifs, s_ret, s_raise, s_try, it_of, it_rng1, eb_none, eb_some, b_ok, b_exc, t_ok, t_exc, r_some, RS.next, bindTg, List.getElem?_cons_zero, List.getElem?_cons_succ, List.set_cons_zero, List.set_cons_succ, sl]) (le_size (by simp)) (fun x hx => ne_elt2 (m x (List.mem_cons_of_mem _ hx)))
      obtain ⟨nb, hnb⟩ : ∃ nb, nb = (neTup v && neTup p && neTup r) := ⟨_, rfl⟩
      have hall : evBi .all S [.lst [.bl (neTup v), .bl (neTup p), .bl (neTup r)]] = some (.bl nb) := by
        have e := all_bl (S := S) (g := neTup) [v, p, r]
        rw [hnb]
        refine e.trans ?_
        simp [Bool.and_assoc]
      have wl : ∀ T : Sto, ∀ env, evE (cfgN txt.prog M (k + 2)) (.lst false (.cons (.str "most") (.cons (.str "least") (.cons (.str "gain most") (.cons (.str "gain least") .nil))))) env T = .ok words4 T := fun T env => by
        rw [ev_lstF]
        simp only [es_cons, es_nil, ev_str, b_ok]
        rw [if_pos (by rw [sizeLine_eq]; decide)]
        rfl
      by_cases hw : isStr w = true
      · cases w <;> first | (cases hw; done) | skip
        rename_i z
        have hin := notin4 (S := S) z
        have hp : inPapers (.str z) = papers.any fun p => p.1 == z := rfl
        rw [← hp] at hin
        have e0 : paperOk (.tup [.str z, v, p, r]) = (inPapers (.str z) && nb && (valsOk v && areNums p && areNums r)) := by
          show (inPapers (.str z) && _ && _) = _
          rw [hnb]
        have hc : evE (cfgN txt.prog M (k + 2)) (.cmp .notin (.idx (.var 0) (.int 0)) (.lst false (.cons (.str "most") (.cons (.str "least") (.cons (.str "gain most") (.cons (.str "gain least") .nil)))))) [some (.tup [.str z, v, p, r]), none, none] S = .ok (.bl (!inPapers (.str z))) S := by
          rw [ev_cmp]
          have : evE (cfgN txt.prog M (k + 2)) (.idx (.var 0) (.int 0)) [some (.tup [.str z, v, p, r]), none, none] S = .ok (.str z) S := by simp [cfg_call, cfg_N, ev_var, ev_non, ev_bl, ev_int, ev_str, ev_glb, ev_bin, ev_neg, ev_no, ev_cmp, ev_chain, ev_isN, ev_and, ev_or, ev_ife, ev_call, ev_bi, ev_isi, ev_me, ev_repl, ev_lm, ev_idx, ev_slc, ev_rev, ev_tup, ev_lstF, ev_lstT, ev_dct, es_nil, es_cons, eo_none, eo_some, ss_nil, ss_cons, s_asg, s_asgc, s_par2, s_par3, s_aug, s_sset, s_xpr, s_ifs, s_ret, s_raise, s_try, it_of, it_rng1, eb_none, eb_some, b_ok, b_exc, t_ok, t_exc, r_some, RS.next, bindTg, List.getElem?_cons_zero, List.getElem?_cons_succ, List.set_cons_zero, List.set_cons_succ, i0]
          rw [this, b_ok, wl, b_ok, hin]; rfl
        rw [e0]
        generalize inPapers (.str z) = ip at hc ⊢
        have s1 : evS (cfgN txt.prog M (k + 2)) (.ifs (.isN false (.var 0)) (.cons (.ret (.bl true)) .nil) .nil) [some (.tup [.str z, v, p, r]), none, none] S = .ok .nx [some (.tup [.str z, v, p, r]), none, none] S := by simp [cfg_call, cfg_N, ev_var, ev_non, ev_bl, ev_int, ev_str, ev_glb, ev_bin, ev_neg, ev_no, ev_cmp, ev_chain, ev_isN, ev_and, ev_or, ev_ife, ev_call, ev_bi, ev_isi, ev_me, ev_repl, ev_lm, ev_idx, ev_slc, ev_rev, ev_tup, ev_lstF, ev_lstT, ev_dct, es_nil, es_cons, eo_none, eo_some, ss_nil, ss_cons, s_asg, s_asgc, s_par2, s_par3, s_aug, s_sset, s_xpr, s_ifs, s_ret, s_raise, s_try, it_of, it_rng1, eb_none, eb_some, b_ok, b_exc, t_ok, t_exc, r_some, RS.next, bindTg, List.getElem?_cons_zero, List.getElem?_cons_succ, List.set_cons_zero, List.set_cons_succ, isNon]
        have c2 : evE (cfgN txt.prog M (k + 2)) (.or (.no (.isi (.var 0) .tup)) (.or (.cmp .ne (.bi .len (.cons (.var 0) .nil)) (.int 4)) (.or (.no (.isi (.idx (.var 0) (.int 0)) .str)) (.cmp .notin (.idx (.var 0) (.int 0)) (.lst false (.cons (.str "most") (.cons (.str "least") (.cons (.str "gain most") (.cons (.str "gain least") .nil))))))))) [some (.tup [.str z, v, p, r]), none, none] S = .ok (.bl (!ip)) S := by
          rw [ev_or, show evE (cfgN txt.prog M (k + 2)) (.no (.isi (.var 0) .tup)) [some (.tup [.str z, v, p, r]), none, none] S = .ok (.bl false) S by simp [cfg_call, cfg_N, ev_var, ev_non, ev_bl, ev_int, ev_str, ev_glb, ev_bin, ev_neg, ev_no, ev_cmp, ev_chain, ev_isN, ev_and, ev_or, ev_ife, ev_call, ev_bi, ev_isi, ev_me, ev_repl, ev_lm, ev_idx, ev_slc, ev_rev, ev_tup, ev_lstF, ev_lstT, ev_dct, es_nil, es_cons, eo_none, eo_some, ss_nil, ss_cons, s_asg, s_asgc, s_par2, s_par3, s_aug, s_sset, s_xpr, s_ifs, s_ret, s_raise, s_try, it_of, it_rng1, eb_none, eb_some, b_ok, b_exc, t_ok, t_exc, r_some, RS.next, bindTg, List.getElem?_cons_zero, List.getElem?_cons_succ, List.set_cons_zero, List.set_cons_succ, isTy], b_ok]
          dsimp only
          rw [ev_or, show evE (cfgN txt.prog M (k + 2)) (.cmp .ne (.bi .len (.cons (.var 0) .nil)) (.int 4)) [some (.tup [.str z, v, p, r]), none, none] S = .ok (.bl false) S by simp [cfg_call, cfg_N, ev_var, ev_non, ev_bl, ev_int, ev_str, ev_glb, ev_bin, ev_neg, ev_no, ev_cmp, ev_chain, ev_isN, ev_and, ev_or, ev_ife, ev_call, ev_bi, ev_isi, ev_me, ev_repl, ev_lm, ev_idx, ev_slc, ev_rev, ev_tup, ev_lstF, ev_lstT, ev_dct, es_nil, es_cons, eo_none, eo_some, ss_nil, ss_cons, s_asg, s_asgc, s_par2, s_par3, s_aug, s_sset, s_xpr, s_ifs, s_ret, s_raise, s_try, it_of, it_rng1, eb_none, eb_some, b_ok, b_exc, t_ok, t_exc, r_some, RS.next, bindTg, List.getElem?_cons_zero, List.getElem?_cons_succ, List.set_cons_zero, List.set_cons_succ, hl, evCmp_ne4], b_ok]
          dsimp only
          rw [ev_or, show evE (cfgN txt.prog M (k + 2)) (.no (.isi (.idx (.var 0) (.int 0)) .str)) [some (.tup [.str z, v, p, r]), none, none] S = .ok (.bl false) S by simp [cfg_call, cfg_N, ev_var, ev_non, ev_bl, ev_int, ev_str, ev_glb, ev_bin, ev_neg, ev_no, ev_cmp, ev_chain, ev_isN, ev_and, ev_or, ev_ife, ev_call, ev_bi, ev_isi, ev_me, ev_repl, ev_lm, ev_idx, ev_slc, ev_rev, ev_tup, ev_lstF, ev_lstT, ev_dct, es_nil, es_cons, eo_none, eo_some, ss_nil, ss_cons, s_asg, s_asgc, s_par2, s_par3, s_aug, s_sset, s_xpr, s_ifs, s_ret, s_raise, s_try, it_of, it_rng1, eb_none, eb_some, b_ok, b_exc, t_ok, t_exc, r_some, RS.next, bindTg, List.getElem?_cons_zero, List.getElem?_cons_succ, List.set_cons_zero, List.set_cons_succ, i0, isTy], b_ok]
          dsimp only
          exact hc
        unfold f33
        refine (ss_go s1).trans ?_
        cases ip with
        | false =>
          refine ss_rt ?_
          rw [s_ifs, c2, t_ok]
          simp [cfg_call, cfg_N, ev_var, ev_non, ev_bl, ev_int, ev_str, ev_glb, ev_bin, ev_neg, ev_no, ev_cmp, ev_chain, ev_isN, ev_and, ev_or, ev_ife, ev_call, ev_bi, ev_isi, ev_me, ev_repl, ev_lm, ev_idx, ev_slc, ev_rev, ev_tup, ev_lstF, ev_lstT, ev_dct, es_nil, es_cons, eo_none, eo_some, ss_nil, ss_cons, s_asg, s_asgc, s_par2, s_par3, s_aug, s_sset, s_xpr, s_ifs, s_ret, s_raise, s_try, it_of, it_rng1, eb_none, eb_some, b_ok, b_exc, t_ok, t_exc, r_some, RS.next, bindTg, List.getElem?_cons_zero, List.getElem?_cons_succ, List.set_cons_zero, List.set_cons_succ, ss_nil]
        | true =>
          have s2 : evS (cfgN txt.prog M (k + 2)) (.ifs (.or (.no (.isi (.var 0) .tup)) (.or (.cmp .ne (.bi .len (.cons (.var 0) .nil)) (.int 4)) (.or (.no (.isi (.idx (.var 0) (.int 0)) .str)) (.cmp .notin (.idx (.var 0) (.int 0)) (.lst false (.cons (.str "most") (.cons (.str "least") (.cons (.str "gain most") (.cons (.str "gain least") .nil))))))))) (.cons (.ret (.bl false)) .nil) .nil) [some (.tup [.str z, v, p, r]), none, none] S = .ok .nx [some (.tup [.str z, v, p, r]), none, none] S := by
            rw [s_ifs, c2, t_ok]
            simp [cfg_call, cfg_N, ev_var, ev_non, ev_bl, ev_int, ev_str, ev_glb, ev_bin, ev_neg, ev_no, ev_cmp, ev_chain, ev_isN, ev_and, ev_or, ev_ife, ev_call, ev_bi, ev_isi, ev_me, ev_repl, ev_lm, ev_idx, ev_slc, ev_rev, ev_tup, ev_lstF, ev_lstT, ev_dct, es_nil, es_cons, eo_none, eo_some, ss_nil, ss_cons, s_asg, s_asgc, s_par2, s_par3, s_aug, s_sset, s_xpr, s_ifs, s_ret, s_raise, s_try, it_of, it_rng1, eb_none, eb_some, b_ok, b_exc, t_ok, t_exc, r_some, RS.next, bindTg, List.getElem?_cons_zero, List.getElem?_cons_succ, List.set_cons_zero, List.set_cons_succ, ss_nil]
          refine (ss_go s2).trans ?_
          cases nb with
          | false => simp [cfg_call, cfg_N, ev_var, ev_non, ev_bl, ev_int, ev_str, ev_glb, ev_bin, ev_neg, ev_no, ev_cmp, ev_chain, ev_isN, ev_and, ev_or, ev_ife, ev_call, ev_bi, ev_isi, ev_me, ev_repl, ev_lm, ev_idx, ev_slc, ev_rev, ev_tup, ev_lstF, ev_lstT, ev_dct, es_nil, es_cons, eo_none, eo_some, ss_nil, ss_cons, s_asg, s_asgc, s_par2, s_par3, s_aug, s_sset, s_xpr, s_ifs, s_ret, s_raise, s_try, it_of, it_rng1, eb_none, eb_some, b_ok, b_exc, t_ok, t_exc, r_some, RS.next, bindTg, List.getElem?_cons_zero, List.getElem?_cons_succ, List.set_cons_zero, List.set_cons_succ, ha, hall]
          | true =>
            cases v with
            | tup vs =>
              obtain ⟨g1, g2⟩ := sm_tup (m (.tup vs) (by simp))
              have mv := smDs_mem g1
              have hv := comp_tup (c := cfgN txt.prog M (k + 2)) (env := [some (.tup [.str z, .tup vs, p, r]), none, none]) (S := S) (src := .idx (.var 0) (.int 1)) (elt := .call 31 (.cons (.var 2) .nil)) (i := 2) (own := [2]) (ds := vs) (g := fun d => .bl (valLaw d))
                (by simp [cfg_call, cfg_N, ev_var, ev_non, ev_bl, ev_int, ev_str, ev_glb, ev_bin, ev_neg, ev_no, ev_cmp, ev_chain, ev_isN, ev_and, ev_or, ev_ife, ev_call, ev_bi, ev_isi, ev_me, ev_repl, ev_lm, ev_idx, ev_slc, ev_rev, ev_tup, ev_lstF, ev_lstT, ev_dct, es_nil, es_cons, eo_none, eo_some, ss_nil, ss_cons, s_asg, s_asgc, s_par2, s_par3, s_aug, s_sset, s_xpr, s_ifs, s_ret, s_raise, s_try, it_of, it_rng1, eb_none, eb_some, b_ok, b_exc, t_ok, t_exc, r_some, RS.next, bindTg, List.getElem?_cons_zero, List.getElem?_cons_succ, List.set_cons_zero, List.set_cons_succ, i1]) (le_size g2) (fun x hx => by
                  have wx := law_is_value_ev (M := M) (k := k) (S := S) hM x (mv x hx)
                  simp [cfg_call, cfg_N, ev_var, ev_non, ev_bl, ev_int, ev_str, ev_glb, ev_bin, ev_neg, ev_no, ev_cmp, ev_chain, ev_isN, ev_and, ev_or, ev_ife, ev_call, ev_bi, ev_isi, ev_me, ev_repl, ev_lm, ev_idx, ev_slc, ev_rev, ev_tup, ev_lstF, ev_lstT, ev_dct, es_nil, es_cons, eo_none, eo_some, ss_nil, ss_cons, s_asg, s_asgc, s_par2, s_par3, s_aug, s_sset, s_xpr, s_ifs, s_ret, s_raise, s_try, it_of, it_rng1, eb_none, eb_some, b_ok, b_exc, t_ok, t_exc, r_some, RS.next, bindTg, List.getElem?_cons_zero, List.getElem?_cons_succ, List.set_cons_zero, List.set_cons_succ, wipeE, wx])
              have av := all_bl (S := S) (g := valLaw) vs
              have ev : valsOk (.tup vs) = vs.all valLaw := rfl
              rw [ev]
              generalize vs.all valLaw = vb at av ⊢
              cases vb <;> cases q2 : areNums p <;> simp [cfg_call, cfg_N, ev_var, ev_non, ev_bl, ev_int, ev_str, ev_glb, ev_bin, ev_neg, ev_no, ev_cmp, ev_chain, ev_isN, ev_and, ev_or, ev_ife, ev_call, ev_bi, ev_isi, ev_me, ev_repl, ev_lm, ev_idx, ev_slc, ev_rev, ev_tup, ev_lstF, ev_lstT, ev_dct, es_nil, es_cons, eo_none, eo_some, ss_nil, ss_cons, s_asg, s_asgc, s_par2, s_par3, s_aug, s_sset, s_xpr, s_ifs, s_ret, s_raise, s_try, it_of, it_rng1, eb_none, eb_some, b_ok, b_exc, t_ok, t_exc, r_some, RS.next, bindTg, List.getElem?_cons_zero, List.getElem?_cons_succ, List.set_cons_zero, List.set_cons_succ, ha, hall, hv, av, i2, i3, ok2, ok3, q2]
            | _ => exact absurd hnb (by simp [neTup])
      · have e1 : paperOk (.tup [w, v, p, r]) = false := by
          have : inPapers w = false := by cases w <;> first | rfl | (exact absurd rfl hw)
          show (inPapers w && _ && _) = _
          rw [this]; rfl
        have ow := m w (by simp)
        cases w <;> first | (exact Bool.noConfusion (show false = true from ow)) | (exact absurd rfl hw) | (simp [cfg_call, cfg_N, ev_var, ev_non, ev_bl, ev_int, ev_str, ev_glb, ev_bin, ev_neg, ev_no, ev_cmp, ev_chain, ev_isN, ev_and, ev_or, ev_ife, ev_call, ev_bi, ev_isi, ev_me, ev_repl, ev_lm, ev_idx, ev_slc, ev_rev, ev_tup, ev_lstF, ev_lstT, ev_dct, es_nil, es_cons, eo_none, eo_some, ss_nil, ss_cons, s_asg, s_asgc, s_par2, s_par3, s_aug, s_sset, s_xpr, s_ifs, s_ret, s_raise, s_try, it_of, it_rng1, eb_none, eb_some, b_ok, b_exc, t_ok, t_exc, r_some, RS.next, bindTg, List.getElem?_cons_zero, List.getElem?_cons_succ, List.set_cons_zero, List.set_cons_succ, f33, startE, isTy, asL, isNon, hl, i0, evCmp_ne4, e1])
    · have e1 : paperOk (.tup ds) = false := by
        unfold paperOk
        split
        · rename_i q; cases q
        · rename_i q; cases q; exact absurd ⟨_, _, _, _, rfl⟩ h4
        · rfl
      have hl : evBi .len S [.tup ds] = some (.int ds.length) := rfl
      have hn : evCmp .ne S (.int ds.length) (.int 4) = some true := by
        have : ¬ ((ds.length : Int) = 4) := by
          intro q
          apply h4
          match ds, q with
          | [w, v, p, r], _ => exact ⟨w, v, p, r, rfl⟩
          | [], q => simp at q
          | [_], q => simp at q
          | [_, _], q => simp at q
          | [_, _, _], q => simp at q
          | _ :: _ :: _ :: _ :: _ :: _, q => simp at q; omega
        show (evEq S (.int ds.length) (.int 4)).map _ = _
        rw [eqI]
        simp [this]
      simp [cfg_call, cfg_N, ev_var, ev_non, ev_bl, ev_int, ev_str, ev_glb, ev_bin, ev_neg, ev_no, ev_cmp, ev_chain, ev_isN, ev_and, ev_or, ev_ife, ev_call, ev_bi, ev_isi, ev_me, ev_repl, ev_lm, ev_idx, ev_slc, ev_rev, ev_tup, ev_lstF, ev_lstT, ev_dct, es_nil, es_cons, eo_none, eo_some, ss_nil, ss_cons, s_asg, s_asgc, s_par2, s_par3, s_aug, s_sset, s_xpr, s_ifs, s_ret, s_raise, s_try, it_of, it_rng1, eb_none, eb_some, b_ok, b_exc, t_ok, t_exc, r_some, RS.next, bindTg, List.getElem?_cons_zero, List.getElem?_cons_succ, List.set_cons_zero, List.set_cons_succ, f33, startE, isTy, isNon, hl, hn, e1]
  | _ => first | (exact Bool.noConfusion (show false = true from h)) | (simp [cfg_call, cfg_N, ev_var, ev_non, ev_bl, ev_int, ev_str, ev_glb, ev_bin, ev_neg, ev_no, ev_cmp, ev_chain, ev_isN, ev_and, ev_or, ev_ife, ev_call, ev_bi, ev_isi, ev_me, ev_repl, ev_lm, ev_idx, ev_slc, ev_rev, ev_tup, ev_lstF, ev_lstT, ev_dct, es_nil, es_cons, eo_none, eo_some, ss_nil, ss_cons, s_asg, s_asgc, s_par2, s_par3, s_aug, s_sset, s_xpr, s_ifs, s_ret, s_raise, s_try, it_of, it_rng1, eb_none, eb_some, b_ok, b_exc, t_ok, t_exc, r_some, RS.next, bindTg, List.getElem?_cons_zero, List.getElem?_cons_succ, List.set_cons_zero, List.set_cons_succ, f33, startE, isTy, asL, paperOk, isNon])
theorem all_part (ps : List D) : (ps.all isPair && ps.all partOk) = ps.all partOk := by
  cases q : ps.all partOk with
  | false => rw [Bool.and_false]
  | true =>
    rw [Bool.and_true, List.all_eq_true]
    intro x hx
    have := List.all_eq_true.mp q x hx
    unfold partOk at this
    split at this
    · rfl
    · cases this
theorem part_elt (hM : 10 ^ 4100 ≤ M) {v x : D} (h : smD x = true) : evE (cfgN txt.prog M (k + 3)) (.and (.isi (.var 1) .tup) (.and (.cmp .eq (.bi .len (.cons (.var 1) .nil)) (.int 2)) (.and (.call 32 (.cons (.idx (.var 1) (.int 0)) .nil)) (.call 33 (.cons (.idx (.var 1) (.int 1)) .nil))))) [some v, some x] S = .ok (.bl (partOk x)) S := by
  cases x with
  | tup ds =>
    have hl : evBi .len S [.tup ds] = some (.int ds.length) := rfl
    have mx := smDs_mem (sm_tup h).1
    by_cases q : ∃ a b, ds = [a, b]
    · obtain ⟨a, b, rfl⟩ := q
      have j0 : evIdx S (.tup [a, b]) (.int 0) = some a := rfl
      have j1 : evIdx S (.tup [a, b]) (.int 1) = some b := rfl
      have l2 : evBi .len S [.tup [a, b]] = some (.int 2) := rfl
      have n2 : evCmp .eq S (.int 2) (.int 2) = some true := by
        show (evEq S (.int 2) (.int 2)) = _
        rw [eqI]; rfl
      have c1 := law_are_numbers_ev (M := M) (k := k + 1) (S := S) a (mx a (by simp))
      have c2 := law_is_paper_ev (M := M) (k := k) (S := S) hM b (mx b (by simp))
      cases z : areNums a <;> simp [cfg_call, cfg_N, ev_var, ev_non, ev_bl, ev_int, ev_str, ev_glb, ev_bin, ev_neg, ev_no, ev_cmp, ev_chain, ev_isN, ev_and, ev_or, ev_ife, ev_call, ev_bi, ev_isi, ev_me, ev_repl, ev_lm, ev_idx, ev_slc, ev_rev, ev_tup, ev_lstF, ev_lstT, ev_dct, es_nil, es_cons, eo_none, eo_some, ss_nil, ss_cons, s_asg, s_asgc, s_par2, s_par3, s_aug, s_sset, s_xpr, s_ifs, s_ret, s_raise, s_try, it_of, it_rng1, eb_none, eb_some, b_ok, b_exc, t_ok, t_exc, r_some, RS.next, bindTg, List.getElem?_cons_zero, List.getElem?_cons_succ, List.set_cons_zero, List.set_cons_succ, isTy, l2, n2, j0, j1, c1, c2, z, partOk]
    · have e1 : partOk (.tup ds) = false := by
        unfold partOk
        split
        · rename_i z; cases z; exact absurd ⟨_, _, rfl⟩ q
        · rfl
      have := (len2 (S := S) ds fun a b z => q ⟨a, b, z⟩).2
      simp [cfg_call, cfg_N, ev_var, ev_non, ev_bl, ev_int, ev_str, ev_glb, ev_bin, ev_neg, ev_no, ev_cmp, ev_chain, ev_isN, ev_and, ev_or, ev_ife, ev_call, ev_bi, ev_isi, ev_me, ev_repl, ev_lm, ev_idx, ev_slc, ev_rev, ev_tup, ev_lstF, ev_lstT, ev_dct, es_nil, es_cons, eo_none, eo_some, ss_nil, ss_cons, s_asg, s_asgc, s_par2, s_par3, s_aug, s_sset, s_xpr, s_ifs, s_ret, s_raise, s_try, it_of, it_rng1, eb_none, eb_some, b_ok, b_exc, t_ok, t_exc, r_some, RS.next, bindTg, List.getElem?_cons_zero, List.getElem?_cons_succ, List.set_cons_zero, List.set_cons_succ, isTy, hl, this, e1]
  | _ => first | (exact Bool.noConfusion (show false = true from h)) | (simp [cfg_call, cfg_N, ev_var, ev_non, ev_bl, ev_int, ev_str, ev_glb, ev_bin, ev_neg, ev_no, ev_cmp, ev_chain, ev_isN, ev_and, ev_or, ev_ife, ev_call, ev_bi, ev_isi, ev_me, ev_repl, ev_lm, ev_idx, ev_slc, ev_rev, ev_tup, ev_lstF, ev_lstT, ev_dct, es_nil, es_cons, eo_none, eo_some, ss_nil, ss_cons, s_asg, s_asgc, s_par2, s_par3, s_aug, s_sset, s_xpr, s_ifs, s_ret, s_raise, s_try, it_of, it_rng1, eb_none, eb_some, b_ok, b_exc, t_ok, t_exc, r_some, RS.next, bindTg, List.getElem?_cons_zero, List.getElem?_cons_succ, List.set_cons_zero, List.set_cons_succ, isTy, asL, partOk])
theorem law_has_form_ev (hM : 10 ^ 4100 ≤ M) (d : D) (h : smD d = true) : callN txt.prog M (k + 4) 34 [d] S = .ok (.bl (answerOk d)) S := by
  refine call_ret (d := f34) rfl rfl ⟨[some d, none], ?_⟩
  cases d with
  | tup ds =>
    obtain ⟨h1, h2⟩ := sm_tup h
    have m := smDs_mem h1
    have hl : evBi .len S [.tup ds] = some (.int ds.length) := rfl
    by_cases q : ∃ a b, ds = [a, b]
    · obtain ⟨a, b, rfl⟩ := q
      have i0 : evIdx S (.tup [a, b]) (.int 0) = some a := rfl
      have i1 : evIdx S (.tup [a, b]) (.int 1) = some b := rfl
      have l2 : evBi .len S [.tup [a, b]] = some (.int 2) := rfl
      have n2 : evCmp .ne S (.int 2) (.int 2) = some false := by
        show (evEq S (.int 2) (.int 2)).map _ = _
        rw [eqI]; rfl
      have oa := m a (by simp)
      have ob := m b (by simp)
      cases a <;> first
        | (exact Bool.noConfusion (show false = true from oa))
        | (simp [cfg_call, cfg_N, ev_var, ev_non, ev_bl, ev_int, ev_str, ev_glb, ev_bin, ev_neg, ev_no, ev_cmp, ev_chain, ev_isN, ev_and, ev_or, ev_ife, ev_call, ev_bi, ev_isi, ev_me, ev_repl, ev_lm, ev_idx, ev_slc, ev_rev, ev_tup, ev_lstF, ev_lstT, ev_dct, es_nil, es_cons, eo_none, eo_some, ss_nil, ss_cons, s_asg, s_asgc, s_par2, s_par3, s_aug, s_sset, s_xpr, s_ifs, s_ret, s_raise, s_try, it_of, it_rng1, eb_none, eb_some, b_ok, b_exc, t_ok, t_exc, r_some, RS.next, bindTg, List.getElem?_cons_zero, List.getElem?_cons_succ, List.set_cons_zero, List.set_cons_succ, f34, startE, isTy, asL, l2, i0, i1, n2, answerOk]; done)
        | skip
      rename_i bb
      cases b with
      | tup ps =>
        obtain ⟨g1, g2⟩ := sm_tup ob
        have mp := smDs_mem g1
        have hp := comp_tup (c := cfgN txt.prog M (k + 3)) (env := [some (.tup [.bl bb, .tup ps]), none]) (S := S) (src := .idx (.var 0) (.int 1)) (elt := .and (.isi (.var 1) .tup) (.and (.cmp .eq (.bi .len (.cons (.var 1) .nil)) (.int 2)) (.and (.call 32 (.cons (.idx (.var 1) (.int 0)) .nil)) (.call 33 (.cons (.idx (.var 1) (.int 1)) .nil))))) (i := 1) (own := [1]) (ds := ps) (g := fun d => .bl (partOk d))
          (by simp [cfg_call, cfg_N, ev_var, ev_non, ev_bl, ev_int, ev_str, ev_glb, ev_bin, ev_neg, ev_no, ev_cmp, ev_chain, ev_isN, ev_and, ev_or, ev_ife, ev_call, ev_bi, ev_isi, ev_me, ev_repl, ev_lm, ev_idx, ev_slc, ev_rev, ev_tup, ev_lstF, ev_lstT, ev_dct, es_nil, es_cons, eo_none, eo_some, ss_nil, ss_cons, s_asg, s_asgc, s_par2, s_par3, s_aug, s_sset, s_xpr, s_ifs, s_ret, s_raise, s_try, it_of, it_rng1, eb_none, eb_some, b_ok, b_exc, t_ok, t_exc, r_some, RS.next, bindTg, List.getElem?_cons_zero, List.getElem?_cons_succ, List.set_cons_zero, List.set_cons_succ, i1]) (le_size g2) (fun x hx => part_elt hM (mp x hx))
        have e1 : answerOk (.tup [.bl bb, .tup ps]) = ps.all partOk := all_part ps
        simp [cfg_call, cfg_N, ev_var, ev_non, ev_bl, ev_int, ev_str, ev_glb, ev_bin, ev_neg, ev_no, ev_cmp, ev_chain, ev_isN, ev_and, ev_or, ev_ife, ev_call, ev_bi, ev_isi, ev_me, ev_repl, ev_lm, ev_idx, ev_slc, ev_rev, ev_tup, ev_lstF, ev_lstT, ev_dct, es_nil, es_cons, eo_none, eo_some, ss_nil, ss_cons, s_asg, s_asgc, s_par2, s_par3, s_aug, s_sset, s_xpr, s_ifs, s_ret, s_raise, s_try, it_of, it_rng1, eb_none, eb_some, b_ok, b_exc, t_ok, t_exc, r_some, RS.next, bindTg, List.getElem?_cons_zero, List.getElem?_cons_succ, List.set_cons_zero, List.set_cons_succ, f34, startE, isTy, l2, i0, i1, n2, hp, all_bl, e1]
      | _ => first | (exact Bool.noConfusion (show false = true from ob)) | (simp [cfg_call, cfg_N, ev_var, ev_non, ev_bl, ev_int, ev_str, ev_glb, ev_bin, ev_neg, ev_no, ev_cmp, ev_chain, ev_isN, ev_and, ev_or, ev_ife, ev_call, ev_bi, ev_isi, ev_me, ev_repl, ev_lm, ev_idx, ev_slc, ev_rev, ev_tup, ev_lstF, ev_lstT, ev_dct, es_nil, es_cons, eo_none, eo_some, ss_nil, ss_cons, s_asg, s_asgc, s_par2, s_par3, s_aug, s_sset, s_xpr, s_ifs, s_ret, s_raise, s_try, it_of, it_rng1, eb_none, eb_some, b_ok, b_exc, t_ok, t_exc, r_some, RS.next, bindTg, List.getElem?_cons_zero, List.getElem?_cons_succ, List.set_cons_zero, List.set_cons_succ, f34, startE, isTy, asL, l2, i0, i1, n2, answerOk])
    · have e1 : answerOk (.tup ds) = false := by
        unfold answerOk
        split
        · rename_i z; cases z; exact absurd ⟨_, _, rfl⟩ q
        · rfl
      have := (len2 (S := S) ds fun a b z => q ⟨a, b, z⟩).1
      simp [cfg_call, cfg_N, ev_var, ev_non, ev_bl, ev_int, ev_str, ev_glb, ev_bin, ev_neg, ev_no, ev_cmp, ev_chain, ev_isN, ev_and, ev_or, ev_ife, ev_call, ev_bi, ev_isi, ev_me, ev_repl, ev_lm, ev_idx, ev_slc, ev_rev, ev_tup, ev_lstF, ev_lstT, ev_dct, es_nil, es_cons, eo_none, eo_some, ss_nil, ss_cons, s_asg, s_asgc, s_par2, s_par3, s_aug, s_sset, s_xpr, s_ifs, s_ret, s_raise, s_try, it_of, it_rng1, eb_none, eb_some, b_ok, b_exc, t_ok, t_exc, r_some, RS.next, bindTg, List.getElem?_cons_zero, List.getElem?_cons_succ, List.set_cons_zero, List.set_cons_succ, f34, startE, isTy, hl, this, e1]
  | _ => first | (exact Bool.noConfusion (show false = true from h)) | (simp [cfg_call, cfg_N, ev_var, ev_non, ev_bl, ev_int, ev_str, ev_glb, ev_bin, ev_neg, ev_no, ev_cmp, ev_chain, ev_isN, ev_and, ev_or, ev_ife, ev_call, ev_bi, ev_isi, ev_me, ev_repl, ev_lm, ev_idx, ev_slc, ev_rev, ev_tup, ev_lstF, ev_lstT, ev_dct, es_nil, es_cons, eo_none, eo_some, ss_nil, ss_cons, s_asg, s_asgc, s_par2, s_par3, s_aug, s_sset, s_xpr, s_ifs, s_ret, s_raise, s_try, it_of, it_rng1, eb_none, eb_some, b_ok, b_exc, t_ok, t_exc, r_some, RS.next, bindTg, List.getElem?_cons_zero, List.getElem?_cons_succ, List.set_cons_zero, List.set_cons_succ, f34, startE, isTy, asL, answerOk])
end
end K54

set_option linter.all false
set_option maxRecDepth 100000
set_option maxHeartbeats 1000000
set_option exponentiation.threshold 20000
namespace K54
open PySem MP
/-! ### answers as data -/
structure Pap where
  w : Str
  vs : List (Option (Nat × Nat))
  ps : List Nat
  rs : List Nat
structure Ans where
  y : Bool
  parts : List (List Nat × Option Pap)
def numsD (ns : List Nat) : D := .tup (ns.map fun (n : Nat) => .int n)
def valD : Option (Nat × Nat) → D
  | none => .non
  | some (n, d) => .tup [.int n, .int d]
def papD : Option Pap → D
  | none => .non
  | some p => .tup [.str p.w, .tup (p.vs.map valD), numsD p.ps, numsD p.rs]
def partD (p : List Nat × Option Pap) : D := .tup [numsD p.1, papD p.2]
def ansD (a : Ans) : D := .tup [.bl a.y, .tup (a.parts.map partD)]
/-! ### their texts -/
def numsT (ns : List Nat) : List Nat := if ns = [] then [45] else TL.joinL [44] (ns.map TL.numL)
def fracT (n d : Nat) : List Nat := if d = 1 then TL.numL n else TL.numL n ++ 47 :: TL.numL d
def valT : Option (Nat × Nat) → List Nat
  | none => [45]
  | some (n, d) => fracT n d
section
variable {M k : Nat} {S : Sto}
theorem str_nat (T : Sto) (n : Nat) (h : n < 10 ^ 4300) : evBi .str T [.int n] = some (.str (SX.S (TL.numL n))) := by
  unfold evBi
  dsimp only
  unfold intTx
  rw [if_pos (by rw [Int.natAbs_natCast]; exact h), SX.num_S]
  rfl
theorem asStrs_map {α : Type} (f : α → Str) : ∀ l : List α, asStrs (l.map fun x => D.str (f x)) = some (l.map f)
  | [] => rfl
  | x :: l => by
    rw [List.map_cons, List.map_cons]
    unfold asStrs
    rw [asStrs_map f l]; rfl
/-- sep.join of a list of texts -/
theorem join_ev {α : Type} (T : Sto) (sep : List Nat) (f : α → List Nat) (l : List α) (h : ((l.map f).map (·.length)).sum + l.length * sep.length ≤ 16777216) :
    evMe .join T (.str (SX.S sep)) [.lst (l.map fun x => .str (SX.S (f x)))] = some (.str (SX.S (TL.joinL sep (l.map f)))) := by
  unfold evMe
  dsimp only
  unfold asQ asL
  simp only [Option.bind_some]
  rw [asStrs_map fun x => SX.S (f x)]
  dsimp only [Option.bind_some]
  have e1 : (l.map fun x => SX.S (f x)) = (l.map f).map SX.S := by rw [List.map_map]; rfl
  rw [e1, if_pos, SX.join_S]
  rw [SX.lens, List.length_map, List.length_map, SX.S_len]
  exact h
/-- a list of texts that may be joined -/
def jOk {α : Type} (f : α → List Nat) (l : List α) : Prop := ((l.map f).map (·.length)).sum + l.length * 1 ≤ 16777216 ∧ l.length ≤ 100000
theorem numbers_text_ev (ns : List Nat) (h : ∀ n ∈ ns, n < 10 ^ 4300) (hj : jOk TL.numL ns) : callN txt.prog M (k + 1) 11 [numsD ns] S = .ok (.str (SX.S (numsT ns))) S := by
  refine call_ret (d := f11) rfl rfl ⟨[some (numsD ns), none], ?_⟩
  have hl : evBi .len S [numsD ns] = some (.int (ns.map fun (n : Nat) => D.int n).length) := rfl
  rw [List.length_map] at hl
  by_cases hn : ns = []
  · subst hn
    simp [cfg_call, cfg_N, ev_var, ev_non, ev_bl, ev_int, ev_str, ev_glb, ev_bin, ev_neg, ev_no, ev_cmp, ev_chain, ev_isN, ev_and, ev_or, ev_ife, ev_call, ev_bi, ev_isi, ev_me, ev_repl, ev_lm, ev_idx, ev_slc, ev_rev, ev_tup, ev_lstF, ev_lstT, ev_dct, es_nil, es_cons, eo_none, eo_some, ss_nil, ss_cons, s_asg, s_asgc, s_par2, s_par3, s_aug, s_sset, s_xpr, s_ifs, s_ret, s_raise, s_try, it_of, it_rng1, eb_none, eb_some, b_ok, b_exc, t_ok, t_exc, r_some, RS.next, bindTg, List.getElem?_cons_zero, List.getElem?_cons_succ, List.set_cons_zero, List.set_cons_succ, f11, startE, hl, evCmp, numsT]
    rfl
  · have hp : 0 < ns.length := List.length_pos_iff.mpr hn
    have hc := comp_tup (c := cfgN txt.prog M k) (env := [some (numsD ns), none]) (S := S) (src := .var 0) (elt := .bi .str (.cons (.var 1) .nil)) (i := 1) (own := [1]) (ds := ns.map fun (n : Nat) => D.int n) (g := fun d => match d with | .int i => .str (SX.S (TL.numL i.toNat)) | d => d)
      (by simp [cfg_call, cfg_N, ev_var, ev_non, ev_bl, ev_int, ev_str, ev_glb, ev_bin, ev_neg, ev_no, ev_cmp, ev_chain, ev_isN, ev_and, ev_or, ev_ife, ev_call, ev_bi, ev_isi, ev_me, ev_repl, ev_lm, ev_idx, ev_slc, ev_rev, ev_tup, ev_lstF, ev_lstT, ev_dct, es_nil, es_cons, eo_none, eo_some, ss_nil, ss_cons, s_asg, s_asgc, s_par2, s_par3, s_aug, s_sset, s_xpr, s_ifs, s_ret, s_raise, s_try, it_of, it_rng1, eb_none, eb_some, b_ok, b_exc, t_ok, t_exc, r_some, RS.next, bindTg, List.getElem?_cons_zero, List.getElem?_cons_succ, List.set_cons_zero, List.set_cons_succ, numsD]) (le_size (by rw [List.length_map]; exact hj.2)) (fun x hx => by
        obtain ⟨n, hn, rfl⟩ := List.mem_map.mp hx
        have := str_nat S n (h n hn)
        simp [cfg_call, cfg_N, ev_var, ev_non, ev_bl, ev_int, ev_str, ev_glb, ev_bin, ev_neg, ev_no, ev_cmp, ev_chain, ev_isN, ev_and, ev_or, ev_ife, ev_call, ev_bi, ev_isi, ev_me, ev_repl, ev_lm, ev_idx, ev_slc, ev_rev, ev_tup, ev_lstF, ev_lstT, ev_dct, es_nil, es_cons, eo_none, eo_some, ss_nil, ss_cons, s_asg, s_asgc, s_par2, s_par3, s_aug, s_sset, s_xpr, s_ifs, s_ret, s_raise, s_try, it_of, it_rng1, eb_none, eb_some, b_ok, b_exc, t_ok, t_exc, r_some, RS.next, bindTg, List.getElem?_cons_zero, List.getElem?_cons_succ, List.set_cons_zero, List.set_cons_succ, wipeE, this])
    rw [List.map_map] at hc
    have e1 : ((fun d => match d with | D.int i => D.str (SX.S (TL.numL i.toNat)) | d => d) ∘ fun (n : Nat) => D.int n) = fun (n : Nat) => D.str (SX.S (TL.numL n)) := by
      funext n
      simp
    rw [e1] at hc
    have j := join_ev S [44] TL.numL ns hj.1
    have e2 : numsT ns = TL.joinL [44] (ns.map TL.numL) := by unfold numsT; rw [if_neg hn]
    have e3 : (Str.ofString "," : Str) = SX.S [44] := by decide
    rw [e2]
    have hgt : evCmp .gt S (.int (ns.length : Int)) (.int 0) = some true := by
      show some (decide ((0 : Int) < ns.length)) = _
      rw [decide_eq_true (by omega)]
    rw [← e3] at j
    simp [cfg_call, cfg_N, ev_var, ev_non, ev_bl, ev_int, ev_str, ev_glb, ev_bin, ev_neg, ev_no, ev_cmp, ev_chain, ev_isN, ev_and, ev_or, ev_ife, ev_call, ev_bi, ev_isi, ev_me, ev_repl, ev_lm, ev_idx, ev_slc, ev_rev, ev_tup, ev_lstF, ev_lstT, ev_dct, es_nil, es_cons, eo_none, eo_some, ss_nil, ss_cons, s_asg, s_asgc, s_par2, s_par3, s_aug, s_sset, s_xpr, s_ifs, s_ret, s_raise, s_try, it_of, it_rng1, eb_none, eb_some, b_ok, b_exc, t_ok, t_exc, r_some, RS.next, bindTg, List.getElem?_cons_zero, List.getElem?_cons_succ, List.set_cons_zero, List.set_cons_succ, f11, startE, hl, hgt, hc, isStrD, j]
theorem toPs_nums : ∀ ns : List Nat, toPs (ns.map fun (n : Nat) => D.int n) = some (ns.map fun (n : Nat) => PyData.int n)
  | [] => rfl
  | n :: ns => by
    rw [List.map_cons, List.map_cons]
    unfold toPs
    rw [toPs_nums ns]; rfl
theorem shaped_nums (ns : List Nat) : SeqAt.shaped (.tuple (ns.map fun (n : Nat) => PyData.int n)) = true := by
  have h1 : PyData.canLayAll0 (ns.map fun (n : Nat) => PyData.int n) = true := by
    induction ns with
    | nil => rfl
    | cons n ns ih => rw [List.map_cons]; unfold PyData.canLayAll0; rw [ih]; rfl
  have h2 : PyData.depthAll (ns.map fun (n : Nat) => PyData.int n) = 0 := by
    induction ns with
    | nil => rfl
    | cons n ns ih =>
      rw [List.map_cons]
      unfold PyData.depthAll
      rw [ih (by unfold PyData.canLayAll0 at h1; rw [List.map_cons] at h1; simp [PyData.canLay0] at h1; exact h1)]
      rfl
  unfold SeqAt.shaped
  have h3 : PyData.canLay0 (.tuple (ns.map fun (n : Nat) => PyData.int n)) = true := h1
  rw [h3, Bool.true_and, decide_eq_true_eq]
  unfold PyData.depth
  omega
theorem ne_nil_ev (T : Sto) (ns : List Nat) : evCmp .ne T (numsD ns) (.tup []) = some (!decide (ns = [])) := by
  show (evEqD T (numsD ns) (.tup [])).map _ = _
  have t : toPS T (numsD ns) = some (.tuple (ns.map fun (n : Nat) => PyData.int n)) := by
    show (toPs (ns.map fun (n : Nat) => D.int n)).map PyData.tuple = _
    rw [toPs_nums]; rfl
  have t2 : toPS T (.tup []) = some (.tuple []) := rfl
  unfold evEqD
  rw [t, t2]
  dsimp only
  rw [shaped_nums, show SeqAt.shaped (.tuple []) = true from rfl, Bool.and_self, if_pos rfl]
  cases ns <;> rfl
theorem law_numbers_text_ev (ns : List Nat) (h : ∀ n ∈ ns, n < 10 ^ 4300) (hj : jOk TL.numL ns) : callN txt.prog M (k + 1) 25 [numsD ns] S = .ok (.str (SX.S (numsT ns))) S := by
  refine call_ret (d := f25) rfl rfl ⟨[some (numsD ns), none], ?_⟩
  have hne := ne_nil_ev S ns
  have hemp : ∀ (c : Cfg) (env : MP.Env) (T : Sto), evE c (.tup .nil) env T = .ok (.tup []) T := fun c env T => by
    rw [ev_tup, es_nil, b_ok, if_pos (by exact Nat.zero_le _)]
  by_cases hn : ns = []
  · subst hn
    have hne : evCmp .ne S (numsD []) (.tup []) = some false := hne
    simp [cfg_call, cfg_N, ev_var, ev_non, ev_bl, ev_int, ev_str, ev_glb, ev_bin, ev_neg, ev_no, ev_cmp, ev_chain, ev_isN, ev_and, ev_or, ev_ife, ev_call, ev_bi, ev_isi, ev_me, ev_repl, ev_lm, ev_idx, ev_slc, ev_rev, ev_tup, ev_lstF, ev_lstT, ev_dct, es_nil, es_cons, eo_none, eo_some, ss_nil, ss_cons, s_asg, s_asgc, s_par2, s_par3, s_aug, s_sset, s_xpr, s_ifs, s_ret, s_raise, s_try, it_of, it_rng1, eb_none, eb_some, b_ok, b_exc, t_ok, t_exc, r_some, RS.next, bindTg, List.getElem?_cons_zero, List.getElem?_cons_succ, List.set_cons_zero, List.set_cons_succ, f25, startE, hne, numsT]
    rfl
  · have hc := comp_tup (c := cfgN txt.prog M k) (env := [some (numsD ns), none]) (S := S) (src := .var 0) (elt := .bi .str (.cons (.var 1) .nil)) (i := 1) (own := [1]) (ds := ns.map fun (n : Nat) => D.int n) (g := fun d => match d with | .int i => .str (SX.S (TL.numL i.toNat)) | d => d)
      (by simp [cfg_call, cfg_N, ev_var, ev_non, ev_bl, ev_int, ev_str, ev_glb, ev_bin, ev_neg, ev_no, ev_cmp, ev_chain, ev_isN, ev_and, ev_or, ev_ife, ev_call, ev_bi, ev_isi, ev_me, ev_repl, ev_lm, ev_idx, ev_slc, ev_rev, ev_tup, ev_lstF, ev_lstT, ev_dct, es_nil, es_cons, eo_none, eo_some, ss_nil, ss_cons, s_asg, s_asgc, s_par2, s_par3, s_aug, s_sset, s_xpr, s_ifs, s_ret, s_raise, s_try, it_of, it_rng1, eb_none, eb_some, b_ok, b_exc, t_ok, t_exc, r_some, RS.next, bindTg, List.getElem?_cons_zero, List.getElem?_cons_succ, List.set_cons_zero, List.set_cons_succ, numsD]) (le_size (by rw [List.length_map]; exact hj.2)) (fun x hx => by
        obtain ⟨n, hn, rfl⟩ := List.mem_map.mp hx
        have := str_nat S n (h n hn)
        simp [cfg_call, cfg_N, ev_var, ev_non, ev_bl, ev_int, ev_str, ev_glb, ev_bin, ev_neg, ev_no, ev_cmp, ev_chain, ev_isN, ev_and, ev_or, ev_ife, ev_call, ev_bi, ev_isi, ev_me, ev_repl, ev_lm, ev_idx, ev_slc, ev_rev, ev_tup, ev_lstF, ev_lstT, ev_dct, es_nil, es_cons, eo_none, eo_some, ss_nil, ss_cons, s_asg, s_asgc, s_par2, s_par3, s_aug, s_sset, s_xpr, s_ifs, s_ret, s_raise, s_try, it_of, it_rng1, eb_none, eb_some, b_ok, b_exc, t_ok, t_exc, r_some, RS.next, bindTg, List.getElem?_cons_zero, List.getElem?_cons_succ, List.set_cons_zero, List.set_cons_succ, wipeE, this])
    rw [List.map_map] at hc
    have e1 : ((fun d => match d with | D.int i => D.str (SX.S (TL.numL i.toNat)) | d => d) ∘ fun (n : Nat) => D.int n) = fun (n : Nat) => D.str (SX.S (TL.numL n)) := by
      funext n
      simp
    rw [e1] at hc
    have j := join_ev S [44] TL.numL ns hj.1
    have e2 : numsT ns = TL.joinL [44] (ns.map TL.numL) := by unfold numsT; rw [if_neg hn]
    have e3 : (Str.ofString "," : Str) = SX.S [44] := by decide
    rw [e2]
    rw [decide_eq_false hn] at hne
    have hne : evCmp .ne S (numsD ns) (.tup []) = some true := hne
    rw [← e3] at j
    simp [cfg_call, cfg_N, ev_var, ev_non, ev_bl, ev_int, ev_str, ev_glb, ev_bin, ev_neg, ev_no, ev_cmp, ev_chain, ev_isN, ev_and, ev_or, ev_ife, ev_call, ev_bi, ev_isi, ev_me, ev_repl, ev_lm, ev_idx, ev_slc, ev_rev, ev_tup, ev_lstF, ev_lstT, ev_dct, es_nil, es_cons, eo_none, eo_some, ss_nil, ss_cons, s_asg, s_asgc, s_par2, s_par3, s_aug, s_sset, s_xpr, s_ifs, s_ret, s_raise, s_try, it_of, it_rng1, eb_none, eb_some, b_ok, b_exc, t_ok, t_exc, r_some, RS.next, bindTg, List.getElem?_cons_zero, List.getElem?_cons_succ, List.set_cons_zero, List.set_cons_succ, f25, startE, hne, hc, isStrD, j]
theorem cat_ev (T : Sto) (a b : List Nat) (h : a.length + b.length ≤ 100000) : evBin .add T (.str (SX.S a)) (.str (SX.S b)) = some (.str (SX.S (a ++ b))) := by
  unfold evBin
  dsimp only
  rw [SX.S_len, SX.S_len, if_pos (Nat.le_trans h (Nat.le_trans (by decide) size_big)), SX.S_cat]
theorem fraction_text_ev (n d : Nat) (h1 : n < 10 ^ 4000) (h2 : d < 10 ^ 4000) (l1 : (TL.numL n).length ≤ 5000) (l2 : (TL.numL d).length ≤ 5000) :
    callN txt.prog M (k + 3) 5 [.tup [.int n, .int d]] S = .ok (.str (SX.S (fracT n d))) S := by
  refine call_ret (d := f5) rfl rfl ⟨[some (.tup [.int n, .int d])], ?_⟩
  have i0 : evIdx S (.tup [.int n, .int d]) (.int 0) = some (.int n) := rfl
  have i1 : evIdx S (.tup [.int n, .int d]) (.int 1) = some (.int d) := rfl
  have ok : ∀ m : Nat, m < 10 ^ 4000 → okD (.int m) = true := fun m hm => decide_eq_true (by
    rw [Int.natAbs_natCast]
    exact Nat.lt_trans hm (Nat.pow_lt_pow_right (by decide) (by decide)))
  have sh : ∀ m : Nat, m < 10 ^ 4000 → isShort (.int m) = true := fun m hm => decide_eq_true (by rw [Int.natAbs_natCast]; exact hm)
  have c1 := is_short_ev (M := M) (k := k) (S := S) (.int n) (ok n h1)
  have c2 := is_short_ev (M := M) (k := k) (S := S) (.int d) (ok d h2)
  rw [sh n h1] at c1
  rw [sh d h2] at c2
  have b : ∀ m : Nat, m < 10 ^ 4000 → m < 10 ^ 4300 := fun m hm => Nat.lt_trans hm (Nat.pow_lt_pow_right (by decide) (by decide))
  have t1 := str_nat S n (b n h1)
  have t2 := str_nat S d (b d h2)
  have hq : evCmp .eq S (.int d) (.int 1) = some (decide ((d : Int) = 1)) := eqI S d 1
  have a1 := cat_ev S (TL.numL n) [47] (by simp; omega)
  have a2 := cat_ev S (TL.numL n ++ [47]) (TL.numL d) (by simp; omega)
  have e3 : (Str.ofString "/" : Str) = SX.S [47] := by decide
  rw [← e3] at a1
  clear h1 h2 ok sh b
  by_cases hd : d = 1
  · subst hd
    have hq : evCmp .eq S (.int ((1 : Nat) : Int)) (.int 1) = some true := hq
    have e4 : fracT n 1 = TL.numL n := rfl
    rw [e4]
    have c2 : callN txt.prog M (k + 2) 4 [.int 1] S = .ok (.bl true) S := c2
    have i0 : evIdx S (.tup [.int n, .int 1]) (.int 0) = some (.int n) := i0
    have i1 : evIdx S (.tup [.int n, .int 1]) (.int 1) = some (.int 1) := i1
    have hq : evCmp .eq S (.int 1) (.int 1) = some true := hq
    show evSs _ f5.body (startE f5 [.tup [.int n, .int 1]]) S = .ok (.rt (.str (SX.S (TL.numL n)))) [some (.tup [.int n, .int 1])] S
    simp [cfg_call, cfg_N, ev_var, ev_non, ev_bl, ev_int, ev_str, ev_glb, ev_bin, ev_neg, ev_no, ev_cmp, ev_chain, ev_isN, ev_and, ev_or, ev_ife, ev_call, ev_bi, ev_isi, ev_me, ev_repl, ev_lm, ev_idx, ev_slc, ev_rev, ev_tup, ev_lstF, ev_lstT, ev_dct, es_nil, es_cons, eo_none, eo_some, ss_nil, ss_cons, s_asg, s_asgc, s_par2, s_par3, s_aug, s_sset, s_xpr, s_ifs, s_ret, s_raise, s_try, it_of, it_rng1, eb_none, eb_some, b_ok, b_exc, t_ok, t_exc, r_some, RS.next, bindTg, List.getElem?_cons_zero, List.getElem?_cons_succ, List.set_cons_zero, List.set_cons_succ, f5, startE, i0, i1, c1, c2, t1, hq]
  · have hd2 : decide ((d : Int) = 1) = false := decide_eq_false (by omega)
    rw [hd2] at hq
    have e4 : fracT n d = (TL.numL n ++ [47]) ++ TL.numL d := by unfold fracT; rw [if_neg hd]; simp
    rw [e4]
    simp [cfg_call, cfg_N, ev_var, ev_non, ev_bl, ev_int, ev_str, ev_glb, ev_bin, ev_neg, ev_no, ev_cmp, ev_chain, ev_isN, ev_and, ev_or, ev_ife, ev_call, ev_bi, ev_isi, ev_me, ev_repl, ev_lm, ev_idx, ev_slc, ev_rev, ev_tup, ev_lstF, ev_lstT, ev_dct, es_nil, es_cons, eo_none, eo_some, ss_nil, ss_cons, s_asg, s_asgc, s_par2, s_par3, s_aug, s_sset, s_xpr, s_ifs, s_ret, s_raise, s_try, it_of, it_rng1, eb_none, eb_some, b_ok, b_exc, t_ok, t_exc, r_some, RS.next, bindTg, List.getElem?_cons_zero, List.getElem?_cons_succ, List.set_cons_zero, List.set_cons_succ, f5, startE, i0, i1, c1, c2, t1, t2, hq, a1, a2]
/-- a value whose text can be told -/
def vOk : Option (Nat × Nat) → Prop
  | none => True
  | some (n, d) => n < 10 ^ 4000 ∧ d < 10 ^ 4000 ∧ (TL.numL n).length ≤ 5000 ∧ (TL.numL d).length ≤ 5000
def valS : D → D
  | .tup [.int n, .int d] => .str (SX.S (fracT n.toNat d.toNat))
  | _ => .str (SX.S [45])
theorem values_text_ev (vs : List (Option (Nat × Nat))) (h : ∀ v ∈ vs, vOk v) (hj : jOk valT vs) : callN txt.prog M (k + 4) 12 [.tup (vs.map valD)] S = .ok (.str (SX.S (TL.joinL [44] (vs.map valT)))) S := by
  refine call_ret (d := f12) rfl rfl ⟨[some (.tup (vs.map valD)), none], ?_⟩
  have hc := comp_tup (c := cfgN txt.prog M (k + 3)) (env := [some (.tup (vs.map valD)), none]) (S := S) (src := .var 0) (elt := .ife (.isN false (.var 1)) (.str "-") (.call 5 (.cons (.var 1) .nil))) (i := 1) (own := [1]) (ds := vs.map valD) (g := valS)
    (by simp [cfg_call, cfg_N, ev_var, ev_non, ev_bl, ev_int, ev_str, ev_glb, ev_bin, ev_neg, ev_no, ev_cmp, ev_chain, ev_isN, ev_and, ev_or, ev_ife, ev_call, ev_bi, ev_isi, ev_me, ev_repl, ev_lm, ev_idx, ev_slc, ev_rev, ev_tup, ev_lstF, ev_lstT, ev_dct, es_nil, es_cons, eo_none, eo_some, ss_nil, ss_cons, s_asg, s_asgc, s_par2, s_par3, s_aug, s_sset, s_xpr, s_ifs, s_ret, s_raise, s_try, it_of, it_rng1, eb_none, eb_some, b_ok, b_exc, t_ok, t_exc, r_some, RS.next, bindTg, List.getElem?_cons_zero, List.getElem?_cons_succ, List.set_cons_zero, List.set_cons_succ, ss_nil]) (le_size (by rw [List.length_map]; exact hj.2)) (fun x hx => by
      obtain ⟨v, hv, rfl⟩ := List.mem_map.mp hx
      have ov := h v hv
      match v, ov with
      | none, _ =>
        have : (Str.ofString "-" : Str) = SX.S [45] := by decide
        simp [cfg_call, cfg_N, ev_var, ev_non, ev_bl, ev_int, ev_str, ev_glb, ev_bin, ev_neg, ev_no, ev_cmp, ev_chain, ev_isN, ev_and, ev_or, ev_ife, ev_call, ev_bi, ev_isi, ev_me, ev_repl, ev_lm, ev_idx, ev_slc, ev_rev, ev_tup, ev_lstF, ev_lstT, ev_dct, es_nil, es_cons, eo_none, eo_some, ss_nil, ss_cons, s_asg, s_asgc, s_par2, s_par3, s_aug, s_sset, s_xpr, s_ifs, s_ret, s_raise, s_try, it_of, it_rng1, eb_none, eb_some, b_ok, b_exc, t_ok, t_exc, r_some, RS.next, bindTg, List.getElem?_cons_zero, List.getElem?_cons_succ, List.set_cons_zero, List.set_cons_succ, wipeE, valD, isNon, valS, this]
      | some (n, d), ⟨o1, o2, o3, o4⟩ =>
        have c := fraction_text_ev (M := M) (k := k) (S := S) n d o1 o2 o3 o4
        simp [cfg_call, cfg_N, ev_var, ev_non, ev_bl, ev_int, ev_str, ev_glb, ev_bin, ev_neg, ev_no, ev_cmp, ev_chain, ev_isN, ev_and, ev_or, ev_ife, ev_call, ev_bi, ev_isi, ev_me, ev_repl, ev_lm, ev_idx, ev_slc, ev_rev, ev_tup, ev_lstF, ev_lstT, ev_dct, es_nil, es_cons, eo_none, eo_some, ss_nil, ss_cons, s_asg, s_asgc, s_par2, s_par3, s_aug, s_sset, s_xpr, s_ifs, s_ret, s_raise, s_try, it_of, it_rng1, eb_none, eb_some, b_ok, b_exc, t_ok, t_exc, r_some, RS.next, bindTg, List.getElem?_cons_zero, List.getElem?_cons_succ, List.set_cons_zero, List.set_cons_succ, wipeE, valD, isNon, valS, c])
  rw [List.map_map] at hc
  have e1 : (valS ∘ valD) = fun v => D.str (SX.S (valT v)) := by
    funext v
    match v with
    | none => rfl
    | some (n, d) => simp [valS, valD, valT]
  rw [e1] at hc
  have j := join_ev S [44] valT vs hj.1
  have e3 : (Str.ofString "," : Str) = SX.S [44] := by decide
  rw [← e3] at j
  simp [cfg_call, cfg_N, ev_var, ev_non, ev_bl, ev_int, ev_str, ev_glb, ev_bin, ev_neg, ev_no, ev_cmp, ev_chain, ev_isN, ev_and, ev_or, ev_ife, ev_call, ev_bi, ev_isi, ev_me, ev_repl, ev_lm, ev_idx, ev_slc, ev_rev, ev_tup, ev_lstF, ev_lstT, ev_dct, es_nil, es_cons, eo_none, eo_some, ss_nil, ss_cons, s_asg, s_asgc, s_par2, s_par3, s_aug, s_sset, s_xpr, s_ifs, s_ret, s_raise, s_try, it_of, it_rng1, eb_none, eb_some, b_ok, b_exc, t_ok, t_exc, r_some, RS.next, bindTg, List.getElem?_cons_zero, List.getElem?_cons_succ, List.set_cons_zero, List.set_cons_succ, f12, startE, hc, isStrD, j]
theorem join_lst (T : Sto) (sep : List Nat) (l : List (List Nat)) (h : (l.map (·.length)).sum + l.length * sep.length ≤ 16777216) :
    evMe .join T (.str (SX.S sep)) [.lst (l.map fun x => .str (SX.S x))] = some (.str (SX.S (TL.joinL sep l))) := by
  have := join_ev T sep id l (by rw [List.map_id]; exact h)
  rw [List.map_id] at this
  exact this
def papT (wt : List Nat) (p : Pap) : List Nat := TL.joinL [58] [wt, TL.joinL [44] (p.vs.map valT), numsT p.ps, numsT p.rs]
structure PapOk (p : Pap) (wt : List Nat) : Prop where
  w : papers.lookup p.w = some (SX.S wt)
  vs : ∀ v ∈ p.vs, vOk v
  vj : jOk valT p.vs
  ps : ∀ n ∈ p.ps, n < 10 ^ 4300
  pj : jOk TL.numL p.ps
  rs : ∀ n ∈ p.rs, n < 10 ^ 4300
  rj : jOk TL.numL p.rs
  all : wt.length + (TL.joinL [44] (p.vs.map valT)).length + (numsT p.ps).length + (numsT p.rs).length + 4 ≤ 100000
theorem paper_text_ev (p : Pap) (wt : List Nat) (h : PapOk p wt) : callN txt.prog M (k + 5) 13 [papD (some p)] S = .ok (.str (SX.S (papT wt p))) S := by
  refine call_ret (d := f13) rfl rfl ⟨[some (papD (some p))], ?_⟩
  have i0 : evIdx S (papD (some p)) (.int 0) = some (.str p.w) := rfl
  have i1 : evIdx S (papD (some p)) (.int 1) = some (.tup (p.vs.map valD)) := rfl
  have i2 : evIdx S (papD (some p)) (.int 2) = some (numsD p.ps) := rfl
  have i3 : evIdx S (papD (some p)) (.int 3) = some (numsD p.rs) := rfl
  have iw : evIdx S (.dct papers) (.str p.w) = some (.str (SX.S wt)) := by
    show (papers.lookup p.w).map D.str = _
    rw [h.w]; rfl
  have c1 := values_text_ev (M := M) (k := k) (S := S) p.vs h.vs h.vj
  have c2 := numbers_text_ev (M := M) (k := k + 3) (S := S) p.ps h.ps h.pj
  have c3 := numbers_text_ev (M := M) (k := k + 3) (S := S) p.rs h.rs h.rj
  have j := join_lst S [58] [wt, TL.joinL [44] (p.vs.map valT), numsT p.ps, numsT p.rs] (by have := h.all; simp; omega)
  have e3 : (Str.ofString ":" : Str) = SX.S [58] := by decide
  have nn : isNon (papD (some p)) = false := rfl
  unfold papT
  rw [← e3] at j
  simp only [List.map_cons, List.map_nil] at j
  generalize TL.joinL [58] [wt, TL.joinL [44] (p.vs.map valT), numsT p.ps, numsT p.rs] = res at j ⊢
  generalize papD (some p) = pd at i0 i1 i2 i3 nn ⊢
  simp [cfg_call, cfg_N, ev_var, ev_non, ev_bl, ev_int, ev_str, ev_glb, ev_bin, ev_neg, ev_no, ev_cmp, ev_chain, ev_isN, ev_and, ev_or, ev_ife, ev_call, ev_bi, ev_isi, ev_me, ev_repl, ev_lm, ev_idx, ev_slc, ev_rev, ev_tup, ev_lstF, ev_lstT, ev_dct, es_nil, es_cons, eo_none, eo_some, ss_nil, ss_cons, s_asg, s_asgc, s_par2, s_par3, s_aug, s_sset, s_xpr, s_ifs, s_ret, s_raise, s_try, it_of, it_rng1, eb_none, eb_some, b_ok, b_exc, t_ok, t_exc, r_some, RS.next, bindTg, List.getElem?_cons_zero, List.getElem?_cons_succ, List.set_cons_zero, List.set_cons_succ, f13, startE, nn, glb3, i0, i1, i2, i3, iw, c1, c2, c3, isStrD, j, sizeLine_eq]
def wordT (w : Str) : List Nat := match papers.lookup w with
  | some x => x.cps.toList
  | none => []
def papOT : Option Pap → List Nat
  | none => [45]
  | some p => papT (wordT p.w) p
def pOk : Option Pap → Prop
  | none => True
  | some p => PapOk p (wordT p.w)
theorem paper_text_all (p : Option Pap) (h : pOk p) : callN txt.prog M (k + 5) 13 [papD p] S = .ok (.str (SX.S (papOT p))) S := by
  cases p with
  | some p => exact paper_text_ev p _ h
  | none =>
    refine call_ret (d := f13) rfl rfl ⟨[some .non], ?_⟩
    have : (Str.ofString "-" : Str) = SX.S [45] := by decide
    simp [cfg_call, cfg_N, ev_var, ev_non, ev_bl, ev_int, ev_str, ev_glb, ev_bin, ev_neg, ev_no, ev_cmp, ev_chain, ev_isN, ev_and, ev_or, ev_ife, ev_call, ev_bi, ev_isi, ev_me, ev_repl, ev_lm, ev_idx, ev_slc, ev_rev, ev_tup, ev_lstF, ev_lstT, ev_dct, es_nil, es_cons, eo_none, eo_some, ss_nil, ss_cons, s_asg, s_asgc, s_par2, s_par3, s_aug, s_sset, s_xpr, s_ifs, s_ret, s_raise, s_try, it_of, it_rng1, eb_none, eb_some, b_ok, b_exc, t_ok, t_exc, r_some, RS.next, bindTg, List.getElem?_cons_zero, List.getElem?_cons_succ, List.set_cons_zero, List.set_cons_succ, f13, startE, papD, isNon, papOT, this]
end
end K54

set_option linter.all false
set_option maxRecDepth 100000
set_option maxHeartbeats 1000000
set_option exponentiation.threshold 20000
namespace K54
open PySem MP
section
variable {M k : Nat} {S : Sto}
def partT (p : List Nat × Option Pap) : List Nat := numsT p.1 ++ [32] ++ papOT p.2
def ynT (y : Bool) : List Nat := if y then [121, 101, 115] else [110, 111]
def ansT (a : Ans) : List Nat := TL.joinL [59, 32] (ynT a.y :: a.parts.map partT)
structure PartOk (p : List Nat × Option Pap) : Prop where
  ns : ∀ n ∈ p.1, n < 10 ^ 4300
  nj : jOk TL.numL p.1
  pp : pOk p.2
  le : (numsT p.1).length + 1 + (papOT p.2).length ≤ 100000
theorem part_ev (p : List Nat × Option Pap) (h : PartOk p) (e0 e1 : Option D) : evE (cfgN txt.prog M (k + 5)) (.bin .add (.bin .add (.call 11 (.cons (.var 2) .nil)) (.str " ")) (.call 13 (.cons (.var 3) .nil))) [e0, e1, some (numsD p.1), some (papD p.2)] S = .ok (.str (SX.S (partT p))) S := by
  have c1 := numbers_text_ev (M := M) (k := k + 4) (S := S) p.1 h.ns h.nj
  have c2 := paper_text_all (M := M) (k := k) (S := S) p.2 h.pp
  have a1 := cat_ev S (numsT p.1) [32] (by have := h.le; simp; omega)
  have a2 := cat_ev S (numsT p.1 ++ [32]) (papOT p.2) (by have := h.le; simp; omega)
  have e3 : (Str.ofString " " : Str) = SX.S [32] := by decide
  rw [← e3] at a1
  unfold partT
  generalize numsT p.1 ++ [32] = z at a1 a2 ⊢
  simp [cfg_call, cfg_N, ev_var, ev_non, ev_bl, ev_int, ev_str, ev_glb, ev_bin, ev_neg, ev_no, ev_cmp, ev_chain, ev_isN, ev_and, ev_or, ev_ife, ev_call, ev_bi, ev_isi, ev_me, ev_repl, ev_lm, ev_idx, ev_slc, ev_rev, ev_tup, ev_lstF, ev_lstT, ev_dct, es_nil, es_cons, eo_none, eo_some, ss_nil, ss_cons, s_asg, s_asgc, s_par2, s_par3, s_aug, s_sset, s_xpr, s_ifs, s_ret, s_raise, s_try, it_of, it_rng1, eb_none, eb_some, b_ok, b_exc, t_ok, t_exc, r_some, RS.next, bindTg, List.getElem?_cons_zero, List.getElem?_cons_succ, List.set_cons_zero, List.set_cons_succ, c1, c2, a1, a2]
/-! ### small answers -/
structure SmP (p : Pap) : Prop where
  w : (papers.any fun q => q.1 == p.w) = true
  vl : p.vs.length ≤ 9
  vs : ∀ v ∈ p.vs, ∀ n d, v = some (n, d) → n < 10 ^ 4000 ∧ d < 10 ^ 4000
  pl : p.ps.length ≤ 9
  ps : ∀ n ∈ p.ps, n ≤ 999
  rl : p.rs.length ≤ 9
  rs : ∀ n ∈ p.rs, n ≤ 999
structure SmA (a : Ans) : Prop where
  l : a.parts.length ≤ 9
  nl : ∀ p ∈ a.parts, p.1.length ≤ 9
  ns : ∀ p ∈ a.parts, ∀ n ∈ p.1, n ≤ 999
  ps : ∀ p ∈ a.parts, ∀ q, p.2 = some q → SmP q
theorem numL3 {n : Nat} (h : n ≤ 999) : (TL.numL n).length ≤ 3 := TL.numL_len (by decide) (by omega)
theorem sum_map {α : Type} (f : α → List Nat) (B : Nat) (l : List α) (h : ∀ a ∈ l, (f a).length ≤ B) : ((l.map f).map (·.length)).sum ≤ l.length * B := by
  rw [List.map_map]
  exact sum_le _ B l h
theorem jok3 {ns : List Nat} (hl : ns.length ≤ 9) (h : ∀ n ∈ ns, n ≤ 999) : jOk TL.numL ns := by
  have := sum_map TL.numL 3 ns fun n hn => numL3 (h n hn)
  unfold jOk
  omega
theorem numsT_len {ns : List Nat} (hl : ns.length ≤ 9) (h : ∀ n ∈ ns, n ≤ 999) : (numsT ns).length ≤ 40 := by
  unfold numsT
  split
  · decide
  · have h1 := joinL_len [44] (ns.map TL.numL)
    have h2 := sum_map TL.numL 3 ns fun n hn => numL3 (h n hn)
    rw [List.length_map] at h1
    simp only [List.length_cons, List.length_nil] at h1
    omega
theorem len4000 {n : Nat} (h : n < 10 ^ 4000) : (TL.numL n).length ≤ 4000 := TL.numL_len (by decide) h
theorem valT_len {v : Option (Nat × Nat)} (h : ∀ n d, v = some (n, d) → n < 10 ^ 4000 ∧ d < 10 ^ 4000) : (valT v).length ≤ 8001 := by
  match v, h with
  | none, _ => decide
  | some (n, d), h =>
    obtain ⟨h1, h2⟩ := h n d rfl
    have l1 := len4000 h1
    have l2 := len4000 h2
    show (fracT n d).length ≤ _
    clear h h1 h2
    unfold fracT
    split
    · omega
    · rw [List.length_append, List.length_cons]; omega
theorem vOk_sm {v : Option (Nat × Nat)} (h : ∀ n d, v = some (n, d) → n < 10 ^ 4000 ∧ d < 10 ^ 4000) : vOk v := by
  match v, h with
  | none, _ => trivial
  | some (n, d), h =>
    obtain ⟨h1, h2⟩ := h n d rfl
    exact ⟨h1, h2, Nat.le_trans (len4000 h1) (by decide), Nat.le_trans (len4000 h2) (by decide)⟩
theorem word_ok {w : Str} (h : (papers.any fun q => q.1 == w) = true) : papers.lookup w = some (SX.S (wordT w)) ∧ (wordT w).length ≤ 9 := by
  have : w = "most" ∨ w = "least" ∨ w = "gain most" ∨ w = "gain least" := by
    simp only [papers, List.any_cons, List.any_nil, Bool.or_false, Bool.or_eq_true, beq_iff_eq] at h
    rcases h with h | h | h | h <;> simp [← h]
  rcases this with h | h | h | h <;> subst h <;> exact ⟨by decide +kernel, by decide +kernel⟩
theorem lt4300 {n : Nat} (h : n ≤ 999) : n < 10 ^ 4300 := Nat.lt_of_le_of_lt h (Nat.lt_of_lt_of_le (show 999 < 10 ^ 3 by decide) (Nat.pow_le_pow_right (by decide) (by decide)))
theorem vals_len {p : Pap} (h : SmP p) : (TL.joinL [44] (p.vs.map valT)).length ≤ 72018 := by
  have h1 := joinL_len [44] (p.vs.map valT)
  have h2 := sum_map valT 8001 p.vs fun v hv => valT_len (h.vs v hv)
  have := h.vl
  rw [List.length_map] at h1
  simp only [List.length_cons, List.length_nil] at h1
  omega
theorem sm_pap {p : Pap} (h : SmP p) : PapOk p (wordT p.w) := by
  have hw := word_ok h.w
  have h2 := sum_map valT 8001 p.vs fun v hv => valT_len (h.vs v hv)
  have h3 := vals_len h
  have h4 := numsT_len h.pl h.ps
  have h5 := numsT_len h.rl h.rs
  have := h.vl
  exact ⟨hw.1, fun v hv => vOk_sm (h.vs v hv), ⟨by omega, by omega⟩, fun n hn => lt4300 (h.ps n hn), jok3 h.pl h.ps, fun n hn => lt4300 (h.rs n hn), jok3 h.rl h.rs, by omega⟩
theorem papT_len {p : Pap} (h : SmP p) : (papT (wordT p.w) p).length ≤ 80000 := by
  have hw := (word_ok h.w).2
  have h3 := vals_len h
  have h4 := numsT_len h.pl h.ps
  have h5 := numsT_len h.rl h.rs
  have h1 := joinL_len [58] [wordT p.w, TL.joinL [44] (p.vs.map valT), numsT p.ps, numsT p.rs]
  simp only [List.map_cons, List.map_nil, List.sum_cons, List.sum_nil, List.length_cons, List.length_nil] at h1
  unfold papT
  omega
theorem sm_part {a : Ans} (h : SmA a) (p : List Nat × Option Pap) (hp : p ∈ a.parts) : PartOk p := by
  have h1 := numsT_len (h.nl p hp) (h.ns p hp)
  refine ⟨fun n hn => lt4300 (h.ns p hp n hn), jok3 (h.nl p hp) (h.ns p hp), ?_, ?_⟩
  · match q : p.2 with
    | none => trivial
    | some z => exact sm_pap (h.ps p hp z q)
  · match q : p.2 with
    | none => show _ + 1 + 1 ≤ _; omega
    | some z =>
      have := papT_len (h.ps p hp z q)
      show _ + 1 + (papT (wordT z.w) z).length ≤ _
      omega
theorem partT_len {a : Ans} (h : SmA a) (p : List Nat × Option Pap) (hp : p ∈ a.parts) : (partT p).length ≤ 90000 := by
  have h1 := numsT_len (h.nl p hp) (h.ns p hp)
  unfold partT
  rw [List.length_append, List.length_append]
  match q : p.2 with
  | none => show _ + 1 + 1 ≤ _; omega
  | some z =>
    have := papT_len (h.ps p hp z q)
    show _ + 1 + (papT (wordT z.w) z).length ≤ _
    omega
theorem yn_len (y : Bool) : (ynT y).length ≤ 3 := by cases y <;> decide
theorem ans_sum {a : Ans} (h : SmA a) : ((ynT a.y :: a.parts.map partT).map (·.length)).sum ≤ 810003 := by
  have h1 := sum_map partT 90000 a.parts (partT_len h)
  have h2 := yn_len a.y
  have h3 := h.l
  rw [List.map_cons, List.sum_cons]
  omega
theorem yn_ev (y : Bool) {c : Cfg} {env : MP.Env} (d : D) (hd : evIdx S d (.int 0) = some (.bl y)) : evE c (.ife (.idx (.var 0) (.int 0)) (.str "yes") (.str "no")) (some d :: env) S = .ok (.str (SX.S (ynT y))) S := by
  have l1 : (Str.ofString "yes" : Str) = SX.S [121, 101, 115] := by decide
  have l2 : (Str.ofString "no" : Str) = SX.S [110, 111] := by decide
  cases y <;> simp [cfg_call, cfg_N, ev_var, ev_non, ev_bl, ev_int, ev_str, ev_glb, ev_bin, ev_neg, ev_no, ev_cmp, ev_chain, ev_isN, ev_and, ev_or, ev_ife, ev_call, ev_bi, ev_isi, ev_me, ev_repl, ev_lm, ev_idx, ev_slc, ev_rev, ev_tup, ev_lstF, ev_lstT, ev_dct, es_nil, es_cons, eo_none, eo_some, ss_nil, ss_cons, s_asg, s_asgc, s_par2, s_par3, s_aug, s_sset, s_xpr, s_ifs, s_ret, s_raise, s_try, it_of, it_rng1, eb_none, eb_some, b_ok, b_exc, t_ok, t_exc, r_some, RS.next, bindTg, List.getElem?_cons_zero, List.getElem?_cons_succ, List.set_cons_zero, List.set_cons_succ, hd, ynT, l1, l2]
theorem plain_answer_ev (a : Ans) (h : SmA a) : callN txt.prog M (k + 6) 14 [ansD a] S = .ok (.str (SX.S (ansT a))) S := by
  refine call_ret (d := f14) rfl rfl ⟨[some (ansD a), some (.lst (a.parts.map fun p => .str (SX.S (partT p)))), none, none], ?_⟩
  have i0 : evIdx S (ansD a) (.int 0) = some (.bl a.y) := rfl
  have i1 : evIdx S (ansD a) (.int 1) = some (.tup (a.parts.map partD)) := rfl
  have hl := h.l
  have hs := ans_sum h
  have hc := comp_al (c := cfgN txt.prog M (k + 5)) (env := [some (ansD a), none, none, none]) (S := S) (src := .idx (.var 0) (.int 1)) (elt := .bin .add (.bin .add (.call 11 (.cons (.var 2) .nil)) (.str " ")) (.call 13 (.cons (.var 3) .nil))) (tg := .tup [2, 3]) (own := [2, 3])
    (e := partD) (g := fun p => .str (SX.S (partT p))) (l := a.parts) (v := .tup (a.parts.map partD)) (by simp [cfg_call, cfg_N, ev_var, ev_non, ev_bl, ev_int, ev_str, ev_glb, ev_bin, ev_neg, ev_no, ev_cmp, ev_chain, ev_isN, ev_and, ev_or, ev_ife, ev_call, ev_bi, ev_isi, ev_me, ev_repl, ev_lm, ev_idx, ev_slc, ev_rev, ev_tup, ev_lstF, ev_lstT, ev_dct, es_nil, es_cons, eo_none, eo_some, ss_nil, ss_cons, s_asg, s_asgc, s_par2, s_par3, s_aug, s_sset, s_xpr, s_ifs, s_ret, s_raise, s_try, it_of, it_rng1, eb_none, eb_some, b_ok, b_exc, t_ok, t_exc, r_some, RS.next, bindTg, List.getElem?_cons_zero, List.getElem?_cons_succ, List.set_cons_zero, List.set_cons_succ, i1]) rfl (le_big (by omega)) (fun p hp => ⟨[some (ansD a), none, some (numsD p.1), some (papD p.2)], rfl, part_ev p (sm_part h p hp) _ _⟩)
  have hadd : evBin .add S (.lst [.str (SX.S (ynT a.y))]) (.lst (a.parts.map fun p => .str (SX.S (partT p)))) = some (.lst ((ynT a.y :: a.parts.map partT).map fun x => .str (SX.S x))) := by
    unfold evBin
    dsimp only
    unfold asL
    dsimp only
    rw [if_pos (le_big (by simp only [List.length_cons, List.length_nil, List.length_map]; omega)), List.map_cons, List.map_map]
    rfl
  have j := join_lst S [59, 32] (ynT a.y :: a.parts.map partT) (by simp only [List.length_cons, List.length_nil, List.length_map] at hs ⊢; omega)
  have e3 : (Str.ofString "; " : Str) = SX.S [59, 32] := by decide
  unfold ansT
  rw [← e3] at j
  clear hs
  have l1 : (Str.ofString "yes" : Str) = SX.S [121, 101, 115] := by decide
  have l2 : (Str.ofString "no" : Str) = SX.S [110, 111] := by decide
  generalize TL.joinL [59, 32] (ynT a.y :: a.parts.map partT) = res at *
  generalize ((ynT a.y :: a.parts.map partT).map fun x => D.str (SX.S x)) = ll at hadd j
  generalize ansD a = A at *
  cases hy : a.y <;> rw [hy] at i0 hadd <;> simp only [ynT, if_true, Bool.false_eq_true, if_false] at hadd <;> simp [cfg_call, cfg_N, ev_var, ev_non, ev_bl, ev_int, ev_str, ev_glb, ev_bin, ev_neg, ev_no, ev_cmp, ev_chain, ev_isN, ev_and, ev_or, ev_ife, ev_call, ev_bi, ev_isi, ev_me, ev_repl, ev_lm, ev_idx, ev_slc, ev_rev, ev_tup, ev_lstF, ev_lstT, ev_dct, es_nil, es_cons, eo_none, eo_some, ss_nil, ss_cons, s_asg, s_asgc, s_par2, s_par3, s_aug, s_sset, s_xpr, s_ifs, s_ret, s_raise, s_try, it_of, it_rng1, eb_none, eb_some, b_ok, b_exc, t_ok, t_exc, r_some, RS.next, bindTg, List.getElem?_cons_zero, List.getElem?_cons_succ, List.set_cons_zero, List.set_cons_succ, f14, startE, hc, i0, l1, l2, hadd, isStrD, j, sizeLine_eq]
theorem write_answer_ev (hM : 10 ^ 4100 ≤ M) (a : Ans) (h : SmA a) (ho : okD (ansD a) = true) (hf : answerOk (ansD a) = true) : callN txt.prog M (k + 7) 15 [ansD a] S = .ok (.str (SX.S (ansT a))) S := by
  have c1 := has_answer_form_ev (M := M) (k := k) (S := S) hM (ansD a) ho
  have c2 := plain_answer_ev (M := M) (k := k) (S := S) a h
  refine call_ret (d := f15) rfl rfl ⟨[some (ansD a)], ?_⟩
  rw [hf] at c1
  generalize ansD a = A at *
  generalize ansT a = B at *
  simp [cfg_call, cfg_N, ev_var, ev_non, ev_bl, ev_int, ev_str, ev_glb, ev_bin, ev_neg, ev_no, ev_cmp, ev_chain, ev_isN, ev_and, ev_or, ev_ife, ev_call, ev_bi, ev_isi, ev_me, ev_repl, ev_lm, ev_idx, ev_slc, ev_rev, ev_tup, ev_lstF, ev_lstT, ev_dct, es_nil, es_cons, eo_none, eo_some, ss_nil, ss_cons, s_asg, s_asgc, s_par2, s_par3, s_aug, s_sset, s_xpr, s_ifs, s_ret, s_raise, s_try, it_of, it_rng1, eb_none, eb_some, b_ok, b_exc, t_ok, t_exc, r_some, RS.next, bindTg, List.getElem?_cons_zero, List.getElem?_cons_succ, List.set_cons_zero, List.set_cons_succ, f15, startE, c1, c2, ss_nil]
theorem write_answer_bad (hM : 10 ^ 4100 ≤ M) (d : D) (ho : okD d = true) (hf : answerOk d = false) : ∃ m, callN txt.prog M (k + 7) 15 [d] S = .exc 0 m S := by
  have c1 := has_answer_form_ev (M := M) (k := k) (S := S) hM d ho
  refine ⟨.str "no answer", call_exc (d := f15) rfl rfl ⟨[some d], ?_⟩⟩
  rw [hf] at c1
  simp [cfg_call, cfg_N, ev_var, ev_non, ev_bl, ev_int, ev_str, ev_glb, ev_bin, ev_neg, ev_no, ev_cmp, ev_chain, ev_isN, ev_and, ev_or, ev_ife, ev_call, ev_bi, ev_isi, ev_me, ev_repl, ev_lm, ev_idx, ev_slc, ev_rev, ev_tup, ev_lstF, ev_lstT, ev_dct, es_nil, es_cons, eo_none, eo_some, ss_nil, ss_cons, s_asg, s_asgc, s_par2, s_par3, s_aug, s_sset, s_xpr, s_ifs, s_ret, s_raise, s_try, it_of, it_rng1, eb_none, eb_some, b_ok, b_exc, t_ok, t_exc, r_some, RS.next, bindTg, List.getElem?_cons_zero, List.getElem?_cons_succ, List.set_cons_zero, List.set_cons_succ, f15, startE, c1, ss_nil]
/-! ### the text that the law puts together -/
theorem repl_word {w : Str} (h : (papers.any fun q => q.1 == w) = true) : w.length + (w.length + 1) * (Str.ofString "" : Str).length ≤ 16777216 ∧ Txt.replace w " " "" = SX.S (wordT w) := by
  have : w = "most" ∨ w = "least" ∨ w = "gain most" ∨ w = "gain least" := by
    simp only [papers, List.any_cons, List.any_nil, Bool.or_false, Bool.or_eq_true, beq_iff_eq] at h
    rcases h with h | h | h | h <;> simp [← h]
  rcases this with h | h | h | h <;> subst h <;> exact ⟨by decide +kernel, by decide +kernel⟩
theorem law_val_ev {c : Cfg} {env : MP.Env} (v : Option (Nat × Nat)) (h : ∀ n d, v = some (n, d) → n < 10 ^ 4000 ∧ d < 10 ^ 4000 ∧ 0 < d) (x0 x1 x2 x3 x4 x5 : Option D) : evE c (.ife (.isN false (.var 6)) (.str "-") (.bin .add (.bi .str (.cons (.idx (.var 6) (.int 0)) .nil)) (.ife (.cmp .gt (.idx (.var 6) (.int 1)) (.int 1)) (.bin .add (.str "/") (.bi .str (.cons (.idx (.var 6) (.int 1)) .nil))) (.str "")))) [x0, x1, x2, x3, x4, x5, some (valD v)] S = .ok (.str (SX.S (valT v))) S := by
  match v, h with
  | none, _ =>
    have : (Str.ofString "-" : Str) = SX.S [45] := by decide
    simp [cfg_call, cfg_N, ev_var, ev_non, ev_bl, ev_int, ev_str, ev_glb, ev_bin, ev_neg, ev_no, ev_cmp, ev_chain, ev_isN, ev_and, ev_or, ev_ife, ev_call, ev_bi, ev_isi, ev_me, ev_repl, ev_lm, ev_idx, ev_slc, ev_rev, ev_tup, ev_lstF, ev_lstT, ev_dct, es_nil, es_cons, eo_none, eo_some, ss_nil, ss_cons, s_asg, s_asgc, s_par2, s_par3, s_aug, s_sset, s_xpr, s_ifs, s_ret, s_raise, s_try, it_of, it_rng1, eb_none, eb_some, b_ok, b_exc, t_ok, t_exc, r_some, RS.next, bindTg, List.getElem?_cons_zero, List.getElem?_cons_succ, List.set_cons_zero, List.set_cons_succ, valD, isNon, valT, this]
  | some (n, d), h =>
    obtain ⟨h1, h2, h3⟩ := h n d rfl
    have l1 := len4000 h1
    have l2 := len4000 h2
    have b : ∀ m : Nat, m < 10 ^ 4000 → m < 10 ^ 4300 := fun m hm => Nat.lt_trans hm (Nat.pow_lt_pow_right (by decide) (by decide))
    have t1 := str_nat S n (b n h1)
    have t2 := str_nat S d (b d h2)
    clear h h1 h2 b
    have i0 : evIdx S (.tup [.int n, .int d]) (.int 0) = some (.int n) := rfl
    have i1 : evIdx S (.tup [.int n, .int d]) (.int 1) = some (.int d) := rfl
    have nn : isNon (.tup [.int n, .int d]) = false := rfl
    have e3 : (Str.ofString "/" : Str) = SX.S [47] := by decide
    have e4 : (Str.ofString "" : Str) = SX.S [] := by decide
    show evE c _ [x0, x1, x2, x3, x4, x5, some (.tup [.int n, .int d])] S = .ok (.str (SX.S (fracT n d))) S
    by_cases hd : d = 1
    · have hg : evCmp .gt S (.int d) (.int 1) = some false := by
        show some (decide ((1 : Int) < d)) = _
        rw [decide_eq_false (by omega)]
      have a1 := cat_ev S (TL.numL n) [] (by simp; omega)
      rw [List.append_nil] at a1
      have e5 : fracT n d = TL.numL n := by unfold fracT; rw [if_pos hd]
      rw [e5]
      generalize (.tup [.int n, .int d] : D) = v at *
      simp [cfg_call, cfg_N, ev_var, ev_non, ev_bl, ev_int, ev_str, ev_glb, ev_bin, ev_neg, ev_no, ev_cmp, ev_chain, ev_isN, ev_and, ev_or, ev_ife, ev_call, ev_bi, ev_isi, ev_me, ev_repl, ev_lm, ev_idx, ev_slc, ev_rev, ev_tup, ev_lstF, ev_lstT, ev_dct, es_nil, es_cons, eo_none, eo_some, ss_nil, ss_cons, s_asg, s_asgc, s_par2, s_par3, s_aug, s_sset, s_xpr, s_ifs, s_ret, s_raise, s_try, it_of, it_rng1, eb_none, eb_some, b_ok, b_exc, t_ok, t_exc, r_some, RS.next, bindTg, List.getElem?_cons_zero, List.getElem?_cons_succ, List.set_cons_zero, List.set_cons_succ, i0, i1, nn, t1, hg, e4, a1]
    · have hg : evCmp .gt S (.int d) (.int 1) = some true := by
        show some (decide ((1 : Int) < d)) = _
        rw [decide_eq_true (by omega)]
      have a1 := cat_ev S [47] (TL.numL d) (by simp; omega)
      have a2 := cat_ev S (TL.numL n) ([47] ++ TL.numL d) (by simp; omega)
      have e5 : fracT n d = TL.numL n ++ ([47] ++ TL.numL d) := by unfold fracT; rw [if_neg hd]; rfl
      rw [e5]
      generalize (.tup [.int n, .int d] : D) = v at *
      generalize [47] ++ TL.numL d = z at *
      simp [cfg_call, cfg_N, ev_var, ev_non, ev_bl, ev_int, ev_str, ev_glb, ev_bin, ev_neg, ev_no, ev_cmp, ev_chain, ev_isN, ev_and, ev_or, ev_ife, ev_call, ev_bi, ev_isi, ev_me, ev_repl, ev_lm, ev_idx, ev_slc, ev_rev, ev_tup, ev_lstF, ev_lstT, ev_dct, es_nil, es_cons, eo_none, eo_some, ss_nil, ss_cons, s_asg, s_asgc, s_par2, s_par3, s_aug, s_sset, s_xpr, s_ifs, s_ret, s_raise, s_try, it_of, it_rng1, eb_none, eb_some, b_ok, b_exc, t_ok, t_exc, r_some, RS.next, bindTg, List.getElem?_cons_zero, List.getElem?_cons_succ, List.set_cons_zero, List.set_cons_succ, i0, i1, nn, t1, t2, hg, e3, a1, a2]
end
end K54

set_option linter.all false
set_option maxRecDepth 100000
set_option maxHeartbeats 1000000
set_option exponentiation.threshold 20000
namespace K54
open PySem MP
section
variable {M k : Nat} {S : Sto}
structure GdP (p : Pap) : Prop where
  v0 : p.vs ≠ []
  p0 : p.ps ≠ []
  r0 : p.rs ≠ []
  vs : ∀ v ∈ p.vs, ∀ n d, v = some (n, d) → 0 < d ∧ Nat.gcd n d = 1
structure GdA (a : Ans) : Prop where
  sm : SmA a
  gd : ∀ p ∈ a.parts, ∀ q, p.2 = some q → GdP q
def valE : E := .ife (.isN false (.var 6)) (.str "-") (.bin .add (.bi .str (.cons (.idx (.var 6) (.int 0)) .nil)) (.ife (.cmp .gt (.idx (.var 6) (.int 1)) (.int 1)) (.bin .add (.str "/") (.bi .str (.cons (.idx (.var 6) (.int 1)) .nil))) (.str "")))
def valC : E := .comp false valE (.nm 6) (.of (.idx (.var 3) (.int 1))) .none [6]
def textE : E := .bin .add (.bin .add (.bin .add (.bin .add (.bin .add (.bin .add (.repl (.var 3) 0 " " "") (.str ":")) (.me .join (.str ",") (.cons (.var 5) .nil))) (.str ":")) (.call 25 (.cons (.idx (.var 3) (.int 2)) .nil))) (.str ":")) (.call 25 (.cons (.idx (.var 3) (.int 3)) .nil))
def turnB : Sts := .cons (.asg (.nm 4) (.str "-")) (.cons (.ifs (.isN true (.var 3)) (.cons (.asgc 5 valC) (.cons (.asg (.nm 4) textE) .nil)) .nil)
  (.cons (.xpr (.lm .append (.var 1) (.cons (.bin .add (.bin .add (.call 25 (.cons (.var 2) .nil)) (.str " ")) (.var 4)) .nil))) .nil))
theorem f26_eq : f26 = ⟨1, 7, .cons (.asg (.nm 1) (.lst true (.cons (.ife (.idx (.var 0) (.int 0)) (.str "yes") (.str "no")) .nil))) (.cons (.for_ (.tup [2, 3]) (.of (.idx (.var 0) (.int 1))) turnB) (.cons (.ret (.me .join (.str "; ") (.cons (.var 1) .nil))) .nil))⟩ := rfl
theorem isN_ev {c : Cfg} {env : MP.Env} {d : D} (ng : Bool) (a : E) (h : evE c a env S = .ok d S) : evE c (.isN ng a) env S = .ok (.bl (if isNon d then !ng else ng)) S := by rw [ev_isN, h, b_ok]
theorem text_ev (p : Pap) (h : SmP p) (g : GdP p) (x0 x1 x2 x4 x6 : Option D) : evE (cfgN txt.prog M (k + 1)) textE [x0, x1, x2, some (papD (some p)), x4, some (.lst (p.vs.map fun v => .str (SX.S (valT v)))), x6] S = .ok (.str (SX.S (papT (wordT p.w) p))) S := by
  have hp := sm_pap h
  have hw := word_ok h.w
  have hr := repl_word h.w
  have c2 := law_numbers_text_ev (M := M) (k := k) (S := S) p.ps hp.ps hp.pj
  have c3 := law_numbers_text_ev (M := M) (k := k) (S := S) p.rs hp.rs hp.rj
  have i0 : evIdx S (papD (some p)) (.int 0) = some (.str p.w) := rfl
  have i2 : evIdx S (papD (some p)) (.int 2) = some (numsD p.ps) := rfl
  have i3 : evIdx S (papD (some p)) (.int 3) = some (numsD p.rs) := rfl
  have j := join_ev S [44] valT p.vs hp.vj.1
  have e1 : (Str.ofString "," : Str) = SX.S [44] := by decide
  have e2 : (Str.ofString ":" : Str) = SX.S [58] := by decide
  have hl := hp.all
  have a1 := cat_ev S (wordT p.w) [58] (by simp; omega)
  have a2 := cat_ev S (wordT p.w ++ [58]) (TL.joinL [44] (p.vs.map valT)) (by simp; omega)
  have a3 := cat_ev S (wordT p.w ++ [58] ++ TL.joinL [44] (p.vs.map valT)) [58] (by simp; omega)
  have a4 := cat_ev S (wordT p.w ++ [58] ++ TL.joinL [44] (p.vs.map valT) ++ [58]) (numsT p.ps) (by simp; omega)
  have a5 := cat_ev S (wordT p.w ++ [58] ++ TL.joinL [44] (p.vs.map valT) ++ [58] ++ numsT p.ps) [58] (by simp; omega)
  have a6 := cat_ev S (wordT p.w ++ [58] ++ TL.joinL [44] (p.vs.map valT) ++ [58] ++ numsT p.ps ++ [58]) (numsT p.rs) (by simp; omega)
  have e3 : papT (wordT p.w) p = wordT p.w ++ [58] ++ TL.joinL [44] (p.vs.map valT) ++ [58] ++ numsT p.ps ++ [58] ++ numsT p.rs := by
    unfold papT
    simp [TL.joinL]
  rw [e3]
  rw [← e1] at j
  rw [← e2] at a1 a3 a5
  unfold textE
  generalize papD (some p) = pd at *
  simp only [cfg_call, cfg_N, ev_var, ev_non, ev_bl, ev_int, ev_str, ev_glb, ev_bin, ev_neg, ev_no, ev_cmp, ev_chain, ev_isN, ev_and, ev_or, ev_ife, ev_call, ev_bi, ev_isi, ev_me, ev_repl, ev_lm, ev_idx, ev_slc, ev_rev, ev_tup, ev_lstF, ev_lstT, ev_dct, es_nil, es_cons, eo_none, eo_some, ss_nil, ss_cons, s_asg, s_asgc, s_par2, s_par3, s_aug, s_sset, s_xpr, s_ifs, s_ret, s_raise, s_try, it_of, it_rng1, eb_none, eb_some, b_ok, b_exc, t_ok, t_exc, r_some, RS.next, bindTg, List.getElem?_cons_zero, List.getElem?_cons_succ, List.set_cons_zero, List.set_cons_succ, ↓reduceIte, i0, i2, i3, c2, c3, isStrD, j, hr.1, hr.2, a1, a2, a3, a4, a5, a6]
theorem turn_ev (p : List Nat × Option Pap) (h : PartOk p) (hs : ∀ q, p.2 = some q → SmP q ∧ GdP q) (xs : List D) (hx : xs.length ≤ 1000000) (x0 e2 e3 e4 e5 e6 : Option D) :
    ∃ y2 y3 y4 y5, fTurn (cfgN txt.prog M (k + 1)) (.tup [2, 3]) turnB (partD p) [x0, some (.loc S.length), e2, e3, e4, e5, e6] (S ++ [.lst xs]) = .ok .nx [x0, some (.loc S.length), y2, y3, y4, y5, e6] (S ++ [.lst (xs ++ [.str (SX.S (partT p))])]) := by
  have hb : bindTg (.tup [2, 3]) [x0, some (.loc S.length), e2, e3, e4, e5, e6] (partD p) = some [x0, some (.loc S.length), some (numsD p.1), some (papD p.2), e4, e5, e6] := rfl
  have l0 : (Str.ofString "-" : Str) = SX.S [45] := by decide
  have h1 : ∃ y5, evS (cfgN txt.prog M (k + 1)) (.ifs (.isN true (.var 3)) (.cons (.asgc 5 valC) (.cons (.asg (.nm 4) textE) .nil)) .nil) [x0, some (.loc S.length), some (numsD p.1), some (papD p.2), some (.str (SX.S [45])), e5, e6] (S ++ [.lst xs]) =
      .ok .nx [x0, some (.loc S.length), some (numsD p.1), some (papD p.2), some (.str (SX.S (papOT p.2))), y5, e6] (S ++ [.lst xs]) := by
    obtain ⟨ns, op⟩ := p
    cases op with
    | none => exact ⟨e5, by simp [cfg_call, cfg_N, ev_var, ev_non, ev_bl, ev_int, ev_str, ev_glb, ev_bin, ev_neg, ev_no, ev_cmp, ev_chain, ev_isN, ev_and, ev_or, ev_ife, ev_call, ev_bi, ev_isi, ev_me, ev_repl, ev_lm, ev_idx, ev_slc, ev_rev, ev_tup, ev_lstF, ev_lstT, ev_dct, es_nil, es_cons, eo_none, eo_some, ss_nil, ss_cons, s_asg, s_asgc, s_par2, s_par3, s_aug, s_sset, s_xpr, s_ifs, s_ret, s_raise, s_try, it_of, it_rng1, eb_none, eb_some, b_ok, b_exc, t_ok, t_exc, r_some, RS.next, bindTg, List.getElem?_cons_zero, List.getElem?_cons_succ, List.set_cons_zero, List.set_cons_succ, papD, isNon, ss_nil, papOT]⟩
    | some q =>
      obtain ⟨s1, s2⟩ := hs q rfl
      have hp := sm_pap s1
      refine ⟨some (.lst (q.vs.map fun v => .str (SX.S (valT v)))), ?_⟩
      have i1 : evIdx (S ++ [.lst xs]) (papD (some q)) (.int 1) = some (.tup (q.vs.map valD)) := rfl
      have hc : evE (cfgN txt.prog M (k + 1)) valC [x0, some (.loc S.length), some (numsD ns), some (papD (some q)), some (.str (SX.S [45])), e5, e6] (S ++ [.lst xs]) = .ok (.lst (q.vs.map fun v => .str (SX.S (valT v)))) (S ++ [.lst xs]) :=
        comp_al (e := valD) (g := fun v => .str (SX.S (valT v))) (l := q.vs) (v := .tup (q.vs.map valD)) (by simp [cfg_call, cfg_N, ev_var, ev_non, ev_bl, ev_int, ev_str, ev_glb, ev_bin, ev_neg, ev_no, ev_cmp, ev_chain, ev_isN, ev_and, ev_or, ev_ife, ev_call, ev_bi, ev_isi, ev_me, ev_repl, ev_lm, ev_idx, ev_slc, ev_rev, ev_tup, ev_lstF, ev_lstT, ev_dct, es_nil, es_cons, eo_none, eo_some, ss_nil, ss_cons, s_asg, s_asgc, s_par2, s_par3, s_aug, s_sset, s_xpr, s_ifs, s_ret, s_raise, s_try, it_of, it_rng1, eb_none, eb_some, b_ok, b_exc, t_ok, t_exc, r_some, RS.next, bindTg, List.getElem?_cons_zero, List.getElem?_cons_succ, List.set_cons_zero, List.set_cons_succ, i1]) rfl (le_size hp.vj.2) (fun v hv => ⟨_, rfl, law_val_ev (env := []) v (fun n d e => ⟨(s1.vs v hv n d e).1, (s1.vs v hv n d e).2, (s2.vs v hv n d e).1⟩) _ _ _ _ _ _⟩)
      have ht := text_ev (M := M) (k := k) (S := S ++ [.lst xs]) q s1 s2 x0 (some (.loc S.length)) (some (numsD ns)) (some (.str (SX.S [45]))) e6
      have nn : isNon (papD (some q)) = false := rfl
      show _ = RS.ok .nx [x0, some (.loc S.length), some (numsD ns), some (papD (some q)), some (.str (SX.S (papT (wordT q.w) q))), _, e6] _
      dsimp only
      generalize papD (some q) = pd at *
      generalize papT (wordT q.w) q = w at *
      simp [cfg_call, cfg_N, ev_var, ev_non, ev_bl, ev_int, ev_str, ev_glb, ev_bin, ev_neg, ev_no, ev_cmp, ev_chain, ev_isN, ev_and, ev_or, ev_ife, ev_call, ev_bi, ev_isi, ev_me, ev_repl, ev_lm, ev_idx, ev_slc, ev_rev, ev_tup, ev_lstF, ev_lstT, ev_dct, es_nil, es_cons, eo_none, eo_some, ss_nil, ss_cons, s_asg, s_asgc, s_par2, s_par3, s_aug, s_sset, s_xpr, s_ifs, s_ret, s_raise, s_try, it_of, it_rng1, eb_none, eb_some, b_ok, b_exc, t_ok, t_exc, r_some, RS.next, bindTg, List.getElem?_cons_zero, List.getElem?_cons_succ, List.set_cons_zero, List.set_cons_succ, nn, hc, ht, ss_nil]
  obtain ⟨y5, h1⟩ := h1
  refine ⟨some (numsD p.1), some (papD p.2), some (.str (SX.S (papOT p.2))), y5, ?_⟩
  rw [fTurn_of hb]
  unfold turnB
  refine (ss_go (env1 := [x0, some (.loc S.length), some (numsD p.1), some (papD p.2), some (.str (SX.S [45])), e5, e6]) (S1 := S ++ [.lst xs]) (by simp [cfg_call, cfg_N, ev_var, ev_non, ev_bl, ev_int, ev_str, ev_glb, ev_bin, ev_neg, ev_no, ev_cmp, ev_chain, ev_isN, ev_and, ev_or, ev_ife, ev_call, ev_bi, ev_isi, ev_me, ev_repl, ev_lm, ev_idx, ev_slc, ev_rev, ev_tup, ev_lstF, ev_lstT, ev_dct, es_nil, es_cons, eo_none, eo_some, ss_nil, ss_cons, s_asg, s_asgc, s_par2, s_par3, s_aug, s_sset, s_xpr, s_ifs, s_ret, s_raise, s_try, it_of, it_rng1, eb_none, eb_some, b_ok, b_exc, t_ok, t_exc, r_some, RS.next, bindTg, List.getElem?_cons_zero, List.getElem?_cons_succ, List.set_cons_zero, List.set_cons_succ, l0])).trans ((ss_go h1).trans ?_)
  have c1 := law_numbers_text_ev (M := M) (k := k) (S := S ++ [.lst xs]) p.1 h.ns h.nj
  have e3 : (Str.ofString " " : Str) = SX.S [32] := by decide
  have a1 := cat_ev (S ++ [.lst xs]) (numsT p.1) [32] (by have := h.le; simp; omega)
  have a2 := cat_ev (S ++ [.lst xs]) (numsT p.1 ++ [32]) (papOT p.2) (by have := h.le; simp; omega)
  have ap := app_last S xs (.str (SX.S (partT p))) hx
  have lo := loc_last S xs
  rw [← e3] at a1
  unfold partT at ap ⊢
  generalize S ++ [Ob.lst xs] = S1 at *
  simp only [cfg_call, cfg_N, ev_var, ev_non, ev_bl, ev_int, ev_str, ev_glb, ev_bin, ev_neg, ev_no, ev_cmp, ev_chain, ev_isN, ev_and, ev_or, ev_ife, ev_call, ev_bi, ev_isi, ev_me, ev_repl, ev_lm, ev_idx, ev_slc, ev_rev, ev_tup, ev_lstF, ev_lstT, ev_dct, es_nil, es_cons, eo_none, eo_some, ss_nil, ss_cons, s_asg, s_asgc, s_par2, s_par3, s_aug, s_sset, s_xpr, s_ifs, s_ret, s_raise, s_try, it_of, it_rng1, eb_none, eb_some, b_ok, b_exc, t_ok, t_exc, r_some, RS.next, bindTg, List.getElem?_cons_zero, List.getElem?_cons_succ, List.set_cons_zero, List.set_cons_succ, ↓reduceIte, c1, a1, a2, ap, lo, ss_nil]
theorem law_answer_text_ev (a : Ans) (h : GdA a) (hS : S.all (Ob.inf S.length) = true) : callN txt.prog M (k + 2) 26 [ansD a] S = .ok (.str (SX.S (ansT a))) S := by
  have i0 : evIdx S (ansD a) (.int 0) = some (.bl a.y) := rfl
  have i1 : ∀ T : Sto, evIdx T (ansD a) (.int 1) = some (.tup (a.parts.map partD)) := fun T => rfl
  have hl := h.sm.l
  have hs := ans_sum h.sm
  obtain ⟨e1, S1, h1, ⟨y2, y3, y4, y5, y6, rfl, rfl⟩⟩ := forL_ix (w := ⟨a.parts.map partD, none⟩) (f := fTurn (cfgN txt.prog M (k + 1)) (.tup [2, 3]) turnB) (e := partD) rfl
    (fun done env T => ∃ y2 y3 y4 y5 y6, env = [some (ansD a), some (.loc S.length), y2, y3, y4, y5, y6] ∧ T = S ++ [.lst ((ynT a.y :: done.map partT).map fun x => .str (SX.S x))]) a.parts [] [some (ansD a), some (.loc S.length), none, none, none, none, none] (S ++ [.lst [.str (SX.S (ynT a.y))]])
    ⟨_, _, _, _, _, rfl, rfl⟩ (by
      rintro dn p rest hsp env T ⟨y2, y3, y4, y5, y6, rfl, rfl⟩
      rw [List.nil_append] at hsp
      have hp : p ∈ a.parts := by rw [hsp]; simp
      have hln : dn.length ≤ 9 := by
        have := congrArg List.length hsp
        rw [List.length_append] at this; omega
      obtain ⟨z2, z3, z4, z5, hz⟩ := turn_ev (M := M) (k := k) (S := S) p (sm_part h.sm p hp) (fun q hq => ⟨h.sm.ps p hp q hq, h.gd p hp q hq⟩) ((ynT a.y :: dn.map partT).map fun x => .str (SX.S x)) (by simp only [List.length_map, List.length_cons]; omega) (some (ansD a)) y2 y3 y4 y5 y6
      refine ⟨_, _, hz, _, _, _, _, _, rfl, ?_⟩
      simp)
  rw [List.nil_append] at h1
  refine call_gc (d := f26) (T := [.lst ((ynT a.y :: a.parts.map partT).map fun x => .str (SX.S x))]) rfl rfl rfl hS ⟨[some (ansD a), some (.loc S.length), y2, y3, y4, y5, y6], ?_⟩
  rw [f26_eq]
  have l1 : (Str.ofString "yes" : Str) = SX.S [121, 101, 115] := by decide
  have l2 : (Str.ofString "no" : Str) = SX.S [110, 111] := by decide
  refine (ss_go (env1 := [some (ansD a), some (.loc S.length), none, none, none, none, none]) (S1 := S ++ [.lst [.str (SX.S (ynT a.y))]]) (by generalize ansD a = A at *; cases hy : a.y <;> rw [hy] at i0 <;> simp [cfg_call, cfg_N, ev_var, ev_non, ev_bl, ev_int, ev_str, ev_glb, ev_bin, ev_neg, ev_no, ev_cmp, ev_chain, ev_isN, ev_and, ev_or, ev_ife, ev_call, ev_bi, ev_isi, ev_me, ev_repl, ev_lm, ev_idx, ev_slc, ev_rev, ev_tup, ev_lstF, ev_lstT, ev_dct, es_nil, es_cons, eo_none, eo_some, ss_nil, ss_cons, s_asg, s_asgc, s_par2, s_par3, s_aug, s_sset, s_xpr, s_ifs, s_ret, s_raise, s_try, it_of, it_rng1, eb_none, eb_some, b_ok, b_exc, t_ok, t_exc, r_some, RS.next, bindTg, List.getElem?_cons_zero, List.getElem?_cons_succ, List.set_cons_zero, List.set_cons_succ, startE, i0, l1, l2, ynT, sizeLine_eq])).trans ?_
  refine (ss_go (env1 := [some (ansD a), some (.loc S.length), y2, y3, y4, y5, y6]) (S1 := S ++ [.lst ((ynT a.y :: a.parts.map partT).map fun x => .str (SX.S x))]) ?_).trans ?_
  · rw [s_for]
    simp only [cfg_call, cfg_N, ev_var, ev_non, ev_bl, ev_int, ev_str, ev_glb, ev_bin, ev_neg, ev_no, ev_cmp, ev_chain, ev_isN, ev_and, ev_or, ev_ife, ev_call, ev_bi, ev_isi, ev_me, ev_repl, ev_lm, ev_idx, ev_slc, ev_rev, ev_tup, ev_lstF, ev_lstT, ev_dct, es_nil, es_cons, eo_none, eo_some, ss_nil, ss_cons, s_asg, s_asgc, s_par2, s_par3, s_aug, s_sset, s_xpr, s_ifs, s_ret, s_raise, s_try, it_of, it_rng1, eb_none, eb_some, b_ok, b_exc, t_ok, t_exc, r_some, RS.next, bindTg, List.getElem?_cons_zero, List.getElem?_cons_succ, List.set_cons_zero, List.set_cons_succ, ↓reduceIte, i1]
    show (rOpt _ (itOf _ (.tup (a.parts.map partD)))).toS _ _ = _
    exact h1
  · have j := join_lst S [59, 32] (ynT a.y :: a.parts.map partT) (by simp only [List.length_cons, List.length_nil, List.length_map] at hs ⊢; omega)
    have e3 : (Str.ofString "; " : Str) = SX.S [59, 32] := by decide
    have j2 : evMe .join (S ++ [.lst ((ynT a.y :: a.parts.map partT).map fun x => .str (SX.S x))]) (.str (SX.S [59, 32])) [.loc S.length] = some (.str (SX.S (ansT a))) := by
      rw [show ansT a = TL.joinL [59, 32] (ynT a.y :: a.parts.map partT) from rfl, ← j]
      unfold evMe
      dsimp only
      have : asQ (S ++ [.lst ((ynT a.y :: a.parts.map partT).map fun x => D.str (SX.S x))]) (.loc S.length) = some ((ynT a.y :: a.parts.map partT).map fun x => .str (SX.S x)) := asL_last _ _
      rw [this]
      rfl
    rw [← e3] at j2
    generalize S ++ [.lst ((ynT a.y :: a.parts.map partT).map fun x => D.str (SX.S x))] = S1 at *
    simp [cfg_call, cfg_N, ev_var, ev_non, ev_bl, ev_int, ev_str, ev_glb, ev_bin, ev_neg, ev_no, ev_cmp, ev_chain, ev_isN, ev_and, ev_or, ev_ife, ev_call, ev_bi, ev_isi, ev_me, ev_repl, ev_lm, ev_idx, ev_slc, ev_rev, ev_tup, ev_lstF, ev_lstT, ev_dct, es_nil, es_cons, eo_none, eo_some, ss_nil, ss_cons, s_asg, s_asgc, s_par2, s_par3, s_aug, s_sset, s_xpr, s_ifs, s_ret, s_raise, s_try, it_of, it_rng1, eb_none, eb_some, b_ok, b_exc, t_ok, t_exc, r_some, RS.next, bindTg, List.getElem?_cons_zero, List.getElem?_cons_succ, List.set_cons_zero, List.set_cons_succ, isStrD, j2]
end
end K54

set_option linter.all false
set_option maxRecDepth 100000
set_option maxHeartbeats 1000000
set_option exponentiation.threshold 20000
namespace K54
open PySem MP
/-! ### reading: numbers -/
def isDig (c : Nat) : Bool := decide (48 ≤ c) && decide (c ≤ 57)
def goodNum (l : List Nat) : Bool := l.all isDig && (decide (l ≠ []) && (decide (l = [48]) || !decide (l.head? = some 48)))
def rdNum (l : List Nat) : Option Nat := if goodNum l = true then some (NumText.digitsVal l) else none
def rdNumP (l : List Nat) : Option Nat := if l.length ≤ 4000 then rdNum l else none
theorem rdNumP_of {l : List Nat} (h : l.length ≤ 4000) : rdNumP l = rdNum l := if_pos h
theorem mem_digs (c : Nat) : decide (c ∈ [48, 49, 50, 51, 52, 53, 54, 55, 56, 57]) = isDig c := by
  unfold isDig
  rw [Bool.eq_iff_iff]
  simp only [Bool.and_eq_true, decide_eq_true_eq, List.mem_cons, List.not_mem_nil, or_false]
  omega
theorem lit_digs : (Str.ofString "0123456789" : Str) = SX.S [48, 49, 50, 51, 52, 53, 54, 55, 56, 57] := by decide
theorem lit_0 : (Str.ofString "0" : Str) = SX.S [48] := by decide
theorem lit_e : (Str.ofString "" : Str) = SX.S [] := by decide
theorem lit_m : (Str.ofString "-" : Str) = SX.S [45] := by decide
theorem lit_c : (Str.ofString "," : Str) = SX.S [44] := by decide
theorem lit_sl : (Str.ofString "/" : Str) = SX.S [47] := by decide
theorem lit_co : (Str.ofString ":" : Str) = SX.S [58] := by decide
theorem lit_sp : (Str.ofString " " : Str) = SX.S [32] := by decide
theorem lit_ss : (Str.ofString "; " : Str) = SX.S [59, 32] := by decide
theorem lit_y : (Str.ofString "yes" : Str) = SX.S [121, 101, 115] := by decide
theorem lit_n : (Str.ofString "no" : Str) = SX.S [110, 111] := by decide
section
variable {M k : Nat} {S : Sto}
theorem all_digs {c : Cfg} {env : MP.Env} {i : Nat} {own : List Nat} {g src : E} (l : List Nat) (hl : l.length ≤ 1000000) (hg : ∀ e T, evE c g e T = .ok (.str (SX.S [48, 49, 50, 51, 52, 53, 54, 55, 56, 57])) T) (hs : evE c src env S = .ok (.str (SX.S l)) S) (hi : i < (wipeE env own).length) :
    ∃ ll, evE c (.comp false (.cmp .isin (.var i) g) (.nm i) (.of src) .none own) env S = .ok ll S ∧ evBi .all S [ll] = some (.bl (l.all isDig)) := by
  have h := comp_al (c := c) (env := env) (S := S) (src := src) (elt := .cmp .isin (.var i) g) (tg := .nm i) (own := own) (e := fun x => .str (SX.S [x])) (g := fun x => .bl (isDig x)) (l := l) (v := .str (SX.S l)) hs (it_S S l) (le_big hl)
    (fun x hx => ⟨_, rfl, by
      have hv : evE c (.var i) ((wipeE env own).set i (some (.str (SX.S [x])))) S = .ok (.str (SX.S [x])) S := by
        rw [ev_var, List.getElem?_set_self hi]
      rw [ev_cmp, hv, b_ok, hg, b_ok, in_S, mem_digs]; rfl⟩)
  exact ⟨_, h, all_bls _ _⟩
theorem hd_S (T : Sto) (c : Nat) (r : List Nat) (h : (c :: r).length ≤ 1000000) : evIdx T (.str (SX.S (c :: r))) (.int 0) = some (.str (SX.S [c])) := by
  unfold evIdx
  dsimp only
  rw [SX.S_len, if_pos (le_big h)]
  show Option.map _ (L2.atI (c :: r) ((0 : Nat) : Int)) = _
  rw [L2.atI_nat (j := 0) (v := c) rfl]
  rfl
theorem int_ev (T : Sto) {l : List Nat} (h : l.all isDig = true) (hn : l ≠ []) (hl : l.length ≤ 4000) : evBi .int T [.str (SX.S l)] = some (.int (NumText.digitsVal l : Nat)) := by
  unfold evBi
  dsimp only
  rw [SX.int_S h hn (by omega), if_pos]
  · rfl
  · refine .inr ⟨by rw [SX.S_len]; omega, ?_⟩
    rw [← Array.all_toList]
    refine List.all_eq_true.mpr fun c hc => ?_
    have := List.all_eq_true.mp h c hc
    simp only [isDig, Bool.and_eq_true, decide_eq_true_eq] at this
    rw [decide_eq_true_eq]; omega
theorem evle (T : Sto) (i j : Int) : evCmp .le T (.int i) (.int j) = some (decide (i ≤ j)) := rfl
theorem evlt (T : Sto) (i j : Int) : evCmp .lt T (.int i) (.int j) = some (decide (i < j)) := rfl
theorem evgt (T : Sto) (i j : Int) : evCmp .gt T (.int i) (.int j) = some (decide (j < i)) := rfl
theorem eveq (T : Sto) (i j : Int) : evCmp .eq T (.int i) (.int j) = some (decide (i = j)) := eqI T i j
theorem evne (T : Sto) (i j : Int) : evCmp .ne T (.int i) (.int j) = some (!decide (i = j)) := by
  show (evEq T (.int i) (.int j)).map _ = _
  rw [eqI]; rfl
theorem read_digits_ev (l : List Nat) (hl : l.length ≤ 1000000) : IsR 0 (callN txt.prog M (k + 1) 16 [.str (SX.S l)] S) ((rdNumP l).map fun (n : Nat) => D.int n) S := by
  refine call_isR (d := f16) rfl rfl ?_
  obtain ⟨ll, h0, hA⟩ := all_digs (c := cfgN txt.prog M k) (env := [some (.str (SX.S l)), none]) (S := S) (i := 1) (own := [1]) (g := .glb 0) (src := .var 0) l hl (fun e T => by rw [ev_glb, glb0, lit_digs]) (by simp [cfg_call, cfg_N, ev_var, ev_non, ev_bl, ev_int, ev_str, ev_glb, ev_bin, ev_neg, ev_no, ev_cmp, ev_chain, ev_isN, ev_and, ev_or, ev_ife, ev_call, ev_bi, ev_isi, ev_me, ev_repl, ev_lm, ev_idx, ev_slc, ev_rev, ev_tup, ev_lstF, ev_lstT, ev_dct, es_nil, es_cons, eo_none, eo_some, ss_nil, ss_cons, s_asg, s_asgc, s_par2, s_par3, s_aug, s_sset, s_xpr, s_ifs, s_ret, s_raise, s_try, it_of, it_rng1, eb_none, eb_some, b_ok, b_exc, t_ok, t_exc, r_some, RS.next, bindTg, List.getElem?_cons_zero, List.getElem?_cons_succ, List.set_cons_zero, List.set_cons_succ, ss_nil]) (by simp [wipeE])
  have hlen := len_S S l hl
  by_cases h1 : l.length ≤ 4000
  · rw [rdNumP_of h1]
    cases l with
    | nil =>
      refine ⟨.str "no number", [some (.str (SX.S [])), none], ?_⟩
      simp [cfg_call, cfg_N, ev_var, ev_non, ev_bl, ev_int, ev_str, ev_glb, ev_bin, ev_neg, ev_no, ev_cmp, ev_chain, ev_isN, ev_and, ev_or, ev_ife, ev_call, ev_bi, ev_isi, ev_me, ev_repl, ev_lm, ev_idx, ev_slc, ev_rev, ev_tup, ev_lstF, ev_lstT, ev_dct, es_nil, es_cons, eo_none, eo_some, ss_nil, ss_cons, s_asg, s_asgc, s_par2, s_par3, s_aug, s_sset, s_xpr, s_ifs, s_ret, s_raise, s_try, it_of, it_rng1, eb_none, eb_some, b_ok, b_exc, t_ok, t_exc, r_some, RS.next, bindTg, List.getElem?_cons_zero, List.getElem?_cons_succ, List.set_cons_zero, List.set_cons_succ, f16, startE, hlen, glb1, evle, ss_nil]
    | cons c r =>
      have hi := hd_S S c r hl
      have a1 : decide ((1 : Int) ≤ ((c :: r).length : Nat)) = true := decide_eq_true (by simp only [List.length_cons]; omega)
      have a2 : decide ((((c :: r).length : Nat) : Int) ≤ 4000) = true := decide_eq_true (by omega)
      have q1 := eq_S S [c] [48]
      have q2 := ne_S S (c :: r) [48]
      by_cases h2 : (c :: r).all isDig = true
      · rw [h2] at hA
        have hint := int_ev S h2 (List.cons_ne_nil _ _) h1
        by_cases h3 : c = 48
        · rw [decide_eq_true (by rw [h3])] at q1
          by_cases h4 : c :: r = [48]
          · rw [decide_eq_true h4] at q2
            have e : rdNum (c :: r) = some (NumText.digitsVal (c :: r)) := by unfold rdNum goodNum; rw [h2, h4]; rfl
            rw [e]
            refine ⟨[some (.str (SX.S (c :: r))), none], ?_⟩
            dsimp only
            generalize ((c :: r).length : Int) = ln at *
            generalize NumText.digitsVal (c :: r) = nn at *
            generalize SX.S (c :: r) = z at *
            simp [cfg_call, cfg_N, ev_var, ev_non, ev_bl, ev_int, ev_str, ev_glb, ev_bin, ev_neg, ev_no, ev_cmp, ev_chain, ev_isN, ev_and, ev_or, ev_ife, ev_call, ev_bi, ev_isi, ev_me, ev_repl, ev_lm, ev_idx, ev_slc, ev_rev, ev_tup, ev_lstF, ev_lstT, ev_dct, es_nil, es_cons, eo_none, eo_some, ss_nil, ss_cons, s_asg, s_asgc, s_par2, s_par3, s_aug, s_sset, s_xpr, s_ifs, s_ret, s_raise, s_try, it_of, it_rng1, eb_none, eb_some, b_ok, b_exc, t_ok, t_exc, r_some, RS.next, bindTg, List.getElem?_cons_zero, List.getElem?_cons_succ, List.set_cons_zero, List.set_cons_succ, f16, startE, hlen, glb1, evle, a1, a2, h0, hA, hi, lit_0, q1, q2, hint, ss_nil]
          · rw [decide_eq_false h4] at q2
            have e : rdNum (c :: r) = none := by
              unfold rdNum goodNum
              rw [h2, decide_eq_false h4, h3]; rfl
            rw [e]
            refine ⟨.str "no number", [some (.str (SX.S (c :: r))), none], ?_⟩
            generalize ((c :: r).length : Int) = ln at *
            generalize SX.S (c :: r) = z at *
            simp [cfg_call, cfg_N, ev_var, ev_non, ev_bl, ev_int, ev_str, ev_glb, ev_bin, ev_neg, ev_no, ev_cmp, ev_chain, ev_isN, ev_and, ev_or, ev_ife, ev_call, ev_bi, ev_isi, ev_me, ev_repl, ev_lm, ev_idx, ev_slc, ev_rev, ev_tup, ev_lstF, ev_lstT, ev_dct, es_nil, es_cons, eo_none, eo_some, ss_nil, ss_cons, s_asg, s_asgc, s_par2, s_par3, s_aug, s_sset, s_xpr, s_ifs, s_ret, s_raise, s_try, it_of, it_rng1, eb_none, eb_some, b_ok, b_exc, t_ok, t_exc, r_some, RS.next, bindTg, List.getElem?_cons_zero, List.getElem?_cons_succ, List.set_cons_zero, List.set_cons_succ, f16, startE, hlen, glb1, evle, a1, a2, h0, hA, hi, lit_0, q1, q2, ss_nil]
        · rw [decide_eq_false (by intro z; cases z; exact h3 rfl)] at q1
          have e : rdNum (c :: r) = some (NumText.digitsVal (c :: r)) := by
            unfold rdNum goodNum
            have : decide ((c :: r).head? = some 48) = false := decide_eq_false (by intro z; cases z; exact h3 rfl)
            rw [h2, this, decide_eq_true (List.cons_ne_nil c r)]; simp
          rw [e]
          refine ⟨[some (.str (SX.S (c :: r))), none], ?_⟩
          (try dsimp only)
          generalize ((c :: r).length : Int) = ln at *
          generalize NumText.digitsVal (c :: r) = nn at *
          generalize SX.S (c :: r) = z at *
          simp [cfg_call, cfg_N, ev_var, ev_non, ev_bl, ev_int, ev_str, ev_glb, ev_bin, ev_neg, ev_no, ev_cmp, ev_chain, ev_isN, ev_and, ev_or, ev_ife, ev_call, ev_bi, ev_isi, ev_me, ev_repl, ev_lm, ev_idx, ev_slc, ev_rev, ev_tup, ev_lstF, ev_lstT, ev_dct, es_nil, es_cons, eo_none, eo_some, ss_nil, ss_cons, s_asg, s_asgc, s_par2, s_par3, s_aug, s_sset, s_xpr, s_ifs, s_ret, s_raise, s_try, it_of, it_rng1, eb_none, eb_some, b_ok, b_exc, t_ok, t_exc, r_some, RS.next, bindTg, List.getElem?_cons_zero, List.getElem?_cons_succ, List.set_cons_zero, List.set_cons_succ, f16, startE, hlen, glb1, evle, a1, a2, h0, hA, hi, lit_0, q1, hint, ss_nil]
      · have e : rdNum (c :: r) = none := by
          unfold rdNum goodNum
          rw [(Bool.not_eq_true _).mp h2]; rfl
        rw [(Bool.not_eq_true _).mp h2] at hA
        rw [e]
        refine ⟨.str "no number", [some (.str (SX.S (c :: r))), none], ?_⟩
        generalize ((c :: r).length : Int) = ln at *
        generalize SX.S (c :: r) = z at *
        simp [cfg_call, cfg_N, ev_var, ev_non, ev_bl, ev_int, ev_str, ev_glb, ev_bin, ev_neg, ev_no, ev_cmp, ev_chain, ev_isN, ev_and, ev_or, ev_ife, ev_call, ev_bi, ev_isi, ev_me, ev_repl, ev_lm, ev_idx, ev_slc, ev_rev, ev_tup, ev_lstF, ev_lstT, ev_dct, es_nil, es_cons, eo_none, eo_some, ss_nil, ss_cons, s_asg, s_asgc, s_par2, s_par3, s_aug, s_sset, s_xpr, s_ifs, s_ret, s_raise, s_try, it_of, it_rng1, eb_none, eb_some, b_ok, b_exc, t_ok, t_exc, r_some, RS.next, bindTg, List.getElem?_cons_zero, List.getElem?_cons_succ, List.set_cons_zero, List.set_cons_succ, f16, startE, hlen, glb1, evle, a1, a2, h0, hA, ss_nil]
  · have e : rdNumP l = none := if_neg h1
    rw [e]
    refine ⟨.str "no number", [some (.str (SX.S l)), none], ?_⟩
    have a1 : decide ((1 : Int) ≤ (l.length : Nat)) = true := decide_eq_true (by omega)
    have a2 : decide (((l.length : Nat) : Int) ≤ 4000) = false := decide_eq_false (by omega)
    generalize (l.length : Int) = ln at *
    generalize SX.S l = z at *
    simp [cfg_call, cfg_N, ev_var, ev_non, ev_bl, ev_int, ev_str, ev_glb, ev_bin, ev_neg, ev_no, ev_cmp, ev_chain, ev_isN, ev_and, ev_or, ev_ife, ev_call, ev_bi, ev_isi, ev_me, ev_repl, ev_lm, ev_idx, ev_slc, ev_rev, ev_tup, ev_lstF, ev_lstT, ev_dct, es_nil, es_cons, eo_none, eo_some, ss_nil, ss_cons, s_asg, s_asgc, s_par2, s_par3, s_aug, s_sset, s_xpr, s_ifs, s_ret, s_raise, s_try, it_of, it_rng1, eb_none, eb_some, b_ok, b_exc, t_ok, t_exc, r_some, RS.next, bindTg, List.getElem?_cons_zero, List.getElem?_cons_succ, List.set_cons_zero, List.set_cons_succ, f16, startE, hlen, glb1, evle, a1, a2, ss_nil]
def optD : Option Nat → D
  | none => .non
  | some n => .int n
theorem law_number_ev (l : List Nat) (hl : l.length ≤ 4000) : callN txt.prog M (k + 1) 35 [.str (SX.S l)] S = .ok (optD (rdNum l)) S := by
  obtain ⟨ll, h0, hA⟩ := all_digs (c := cfgN txt.prog M k) (env := [some (.str (SX.S l)), none, none]) (S := S) (i := 2) (own := [2]) (g := .str "0123456789") (src := .var 0) l (by omega) (fun e T => by rw [ev_str, lit_digs]) (by simp [cfg_call, cfg_N, ev_var, ev_non, ev_bl, ev_int, ev_str, ev_glb, ev_bin, ev_neg, ev_no, ev_cmp, ev_chain, ev_isN, ev_and, ev_or, ev_ife, ev_call, ev_bi, ev_isi, ev_me, ev_repl, ev_lm, ev_idx, ev_slc, ev_rev, ev_tup, ev_lstF, ev_lstT, ev_dct, es_nil, es_cons, eo_none, eo_some, ss_nil, ss_cons, s_asg, s_asgc, s_par2, s_par3, s_aug, s_sset, s_xpr, s_ifs, s_ret, s_raise, s_try, it_of, it_rng1, eb_none, eb_some, b_ok, b_exc, t_ok, t_exc, r_some, RS.next, bindTg, List.getElem?_cons_zero, List.getElem?_cons_succ, List.set_cons_zero, List.set_cons_succ, ss_nil]) (by simp [wipeE])
  refine call_ret (d := f35) rfl rfl ⟨[some (.str (SX.S l)), some (.bl (goodNum l)), none], ?_⟩
  have q0 := ne_S S l []
  have q1 := eq_S S l [48]
  by_cases hn : l = []
  · rw [decide_eq_true hn] at q0
    have e : goodNum l = false := by rw [hn]; rfl
    unfold rdNum
    rw [e]
    generalize SX.S l = z at *
    simp [cfg_call, cfg_N, ev_var, ev_non, ev_bl, ev_int, ev_str, ev_glb, ev_bin, ev_neg, ev_no, ev_cmp, ev_chain, ev_isN, ev_and, ev_or, ev_ife, ev_call, ev_bi, ev_isi, ev_me, ev_repl, ev_lm, ev_idx, ev_slc, ev_rev, ev_tup, ev_lstF, ev_lstT, ev_dct, es_nil, es_cons, eo_none, eo_some, ss_nil, ss_cons, s_asg, s_asgc, s_par2, s_par3, s_aug, s_sset, s_xpr, s_ifs, s_ret, s_raise, s_try, it_of, it_rng1, eb_none, eb_some, b_ok, b_exc, t_ok, t_exc, r_some, RS.next, bindTg, List.getElem?_cons_zero, List.getElem?_cons_succ, List.set_cons_zero, List.set_cons_succ, f35, startE, lit_e, q0, optD]
  · rw [decide_eq_false hn] at q0
    obtain ⟨c, r, rfl⟩ : ∃ c r, l = c :: r := List.exists_cons_of_ne_nil hn
    by_cases h2 : (c :: r).all isDig = true
    · rw [h2] at hA
      have hint := int_ev S h2 hn hl
      have hi := hd_S S c r (by omega)
      have q2 := ne_S S [c] [48]
      have e0 : goodNum (c :: r) = (decide (c :: r = [48]) || !decide ([c] = [48])) := by
        unfold goodNum
        rw [h2, decide_eq_true hn, Bool.true_and, Bool.true_and]
        congr 2
        rw [decide_eq_decide]
        exact ⟨fun z => by cases z; rfl, fun z => by cases z; rfl⟩
      unfold rdNum
      rw [e0]
      cases z1 : decide (c :: r = [48]) with
      | true =>
        rw [z1] at q1
        (try dsimp only)
        generalize NumText.digitsVal (c :: r) = nn at *
        generalize SX.S (c :: r) = z at *
        simp [cfg_call, cfg_N, ev_var, ev_non, ev_bl, ev_int, ev_str, ev_glb, ev_bin, ev_neg, ev_no, ev_cmp, ev_chain, ev_isN, ev_and, ev_or, ev_ife, ev_call, ev_bi, ev_isi, ev_me, ev_repl, ev_lm, ev_idx, ev_slc, ev_rev, ev_tup, ev_lstF, ev_lstT, ev_dct, es_nil, es_cons, eo_none, eo_some, ss_nil, ss_cons, s_asg, s_asgc, s_par2, s_par3, s_aug, s_sset, s_xpr, s_ifs, s_ret, s_raise, s_try, it_of, it_rng1, eb_none, eb_some, b_ok, b_exc, t_ok, t_exc, r_some, RS.next, bindTg, List.getElem?_cons_zero, List.getElem?_cons_succ, List.set_cons_zero, List.set_cons_succ, f35, startE, lit_e, lit_0, q0, h0, hA, q1, hint, optD]
      | false =>
        rw [z1] at q1
        cases z2 : decide ([c] = [48]) with
        | true =>
          rw [z2] at q2
          (try dsimp only)
          generalize SX.S (c :: r) = z at *
          simp [cfg_call, cfg_N, ev_var, ev_non, ev_bl, ev_int, ev_str, ev_glb, ev_bin, ev_neg, ev_no, ev_cmp, ev_chain, ev_isN, ev_and, ev_or, ev_ife, ev_call, ev_bi, ev_isi, ev_me, ev_repl, ev_lm, ev_idx, ev_slc, ev_rev, ev_tup, ev_lstF, ev_lstT, ev_dct, es_nil, es_cons, eo_none, eo_some, ss_nil, ss_cons, s_asg, s_asgc, s_par2, s_par3, s_aug, s_sset, s_xpr, s_ifs, s_ret, s_raise, s_try, it_of, it_rng1, eb_none, eb_some, b_ok, b_exc, t_ok, t_exc, r_some, RS.next, bindTg, List.getElem?_cons_zero, List.getElem?_cons_succ, List.set_cons_zero, List.set_cons_succ, f35, startE, lit_e, lit_0, q0, h0, hA, q1, hi, q2, optD]
        | false =>
          rw [z2] at q2
          (try dsimp only)
          generalize NumText.digitsVal (c :: r) = nn at *
          generalize SX.S (c :: r) = z at *
          simp [cfg_call, cfg_N, ev_var, ev_non, ev_bl, ev_int, ev_str, ev_glb, ev_bin, ev_neg, ev_no, ev_cmp, ev_chain, ev_isN, ev_and, ev_or, ev_ife, ev_call, ev_bi, ev_isi, ev_me, ev_repl, ev_lm, ev_idx, ev_slc, ev_rev, ev_tup, ev_lstF, ev_lstT, ev_dct, es_nil, es_cons, eo_none, eo_some, ss_nil, ss_cons, s_asg, s_asgc, s_par2, s_par3, s_aug, s_sset, s_xpr, s_ifs, s_ret, s_raise, s_try, it_of, it_rng1, eb_none, eb_some, b_ok, b_exc, t_ok, t_exc, r_some, RS.next, bindTg, List.getElem?_cons_zero, List.getElem?_cons_succ, List.set_cons_zero, List.set_cons_succ, f35, startE, lit_e, lit_0, q0, h0, hA, q1, hi, q2, hint, optD]
    · rw [(Bool.not_eq_true _).mp h2] at hA
      have e : goodNum (c :: r) = false := by unfold goodNum; rw [(Bool.not_eq_true _).mp h2]; rfl
      unfold rdNum
      rw [e]
      generalize SX.S (c :: r) = z at *
      simp [cfg_call, cfg_N, ev_var, ev_non, ev_bl, ev_int, ev_str, ev_glb, ev_bin, ev_neg, ev_no, ev_cmp, ev_chain, ev_isN, ev_and, ev_or, ev_ife, ev_call, ev_bi, ev_isi, ev_me, ev_repl, ev_lm, ev_idx, ev_slc, ev_rev, ev_tup, ev_lstF, ev_lstT, ev_dct, es_nil, es_cons, eo_none, eo_some, ss_nil, ss_cons, s_asg, s_asgc, s_par2, s_par3, s_aug, s_sset, s_xpr, s_ifs, s_ret, s_raise, s_try, it_of, it_rng1, eb_none, eb_some, b_ok, b_exc, t_ok, t_exc, r_some, RS.next, bindTg, List.getElem?_cons_zero, List.getElem?_cons_succ, List.set_cons_zero, List.set_cons_succ, f35, startE, lit_e, q0, h0, hA, optD]
/-! ### lists of numbers -/
def rdNumsP (l : List Nat) : Option (List Nat) := if l = [45] then some [] else (TL.spl [44] 0 [] l).mapM rdNumP
theorem mapM_map {α β γ : Type} (f : α → Option β) (h : β → γ) : ∀ l : List α, (l.mapM fun a => (f a).map h) = (l.mapM f).map (List.map h)
  | [] => rfl
  | a :: l => by
    rw [List.mapM_cons, List.mapM_cons, mapM_map f h l]
    cases f a with
    | none => rfl
    | some b =>
      cases l.mapM f with
      | none => rfl
      | some bs => rfl
theorem tuple_isR {c : Cfg} {env : MP.Env} {e : E} {o : Option (List D)} {j : Nat} (h : IsR j (evE c e env S) (o.map .lst) S) : IsR j (evE c (.bi .tuple (.cons e .nil)) env S) (o.map .tup) S := by
  rw [ev_bi, es_cons]
  cases o with
  | none =>
    obtain ⟨m, h⟩ := h
    rw [h]; exact ⟨m, rfl⟩
  | some ds =>
    have h : _ = _ := h
    rw [h, b_ok, es_nil, b_ok, b_ok]
    rfl
theorem isR_ife {c : Cfg} {env : MP.Env} {d a b : E} {o : Option D} {j : Nat} (t : Bool) (hd : evE c d env S = .ok (.bl t) S) (h : IsR j (evE c (if t then a else b) env S) o S) : IsR j (evE c (.ife d a b) env S) o S := by
  rw [ev_ife, hd, b_ok]
  cases t <;> exact h
theorem comma_ev (x : List Nat) (hx : x.length ≤ 100000) {c : Cfg} {env : MP.Env} {e : E} (he : evE c e env S = .ok (.str (SX.S x)) S) : evE c (.me .split e (.cons (.str ",") .nil)) env S = .ok (.lst ((TL.spl [44] 0 [] x).map fun x => .str (SX.S x))) S := by
  have s := split_ev S x [44] (by decide) (by decide) hx
  simp [cfg_call, cfg_N, ev_var, ev_non, ev_bl, ev_int, ev_str, ev_glb, ev_bin, ev_neg, ev_no, ev_cmp, ev_chain, ev_isN, ev_and, ev_or, ev_ife, ev_call, ev_bi, ev_isi, ev_me, ev_repl, ev_lm, ev_idx, ev_slc, ev_rev, ev_tup, ev_lstF, ev_lstT, ev_dct, es_nil, es_cons, eo_none, eo_some, ss_nil, ss_cons, s_asg, s_asgc, s_par2, s_par3, s_aug, s_sset, s_xpr, s_ifs, s_ret, s_raise, s_try, it_of, it_rng1, eb_none, eb_some, b_ok, b_exc, t_ok, t_exc, r_some, RS.next, bindTg, List.getElem?_cons_zero, List.getElem?_cons_succ, List.set_cons_zero, List.set_cons_succ, he, isStrD, lit_c, s]
theorem spl_le {b x : List Nat} (hx : x.length ≤ 100000) : (TL.spl b 0 [] x).length ≤ 1000000 := by
  have := splL_len b x 0 []
  omega
theorem read_numbers_ev (l : List Nat) (hl : l.length ≤ 100000) : IsR 0 (callN txt.prog M (k + 2) 17 [.str (SX.S l)] S) ((rdNumsP l).map numsD) S := by
  refine call_isR (d := f17) rfl rfl (isS_last (isS_ret ?_))
  have q := eq_S S l [45]
  refine isR_ife (decide (l = [45])) (by show evE _ _ [some (.str (SX.S l)), none] S = _; generalize SX.S l = z at *; simp [cfg_call, cfg_N, ev_var, ev_non, ev_bl, ev_int, ev_str, ev_glb, ev_bin, ev_neg, ev_no, ev_cmp, ev_chain, ev_isN, ev_and, ev_or, ev_ife, ev_call, ev_bi, ev_isi, ev_me, ev_repl, ev_lm, ev_idx, ev_slc, ev_rev, ev_tup, ev_lstF, ev_lstT, ev_dct, es_nil, es_cons, eo_none, eo_some, ss_nil, ss_cons, s_asg, s_asgc, s_par2, s_par3, s_aug, s_sset, s_xpr, s_ifs, s_ret, s_raise, s_try, it_of, it_rng1, eb_none, eb_some, b_ok, b_exc, t_ok, t_exc, r_some, RS.next, bindTg, List.getElem?_cons_zero, List.getElem?_cons_succ, List.set_cons_zero, List.set_cons_succ, lit_m, q]) ?_
  unfold rdNumsP
  by_cases h : l = [45]
  · rw [if_pos h, decide_eq_true h, if_pos rfl]
    show _ = _
    rw [ev_tup, es_nil]
    rfl
  · rw [if_neg h, decide_eq_false h, if_neg (by decide)]
    have hc := comp_op (j := 0) (c := cfgN txt.prog M (k + 1)) (env := [some (.str (SX.S l)), none]) (S := S) (src := .me .split (.var 0) (.cons (.str ",") .nil)) (elt := .call 16 (.cons (.var 1) .nil)) (tg := .nm 1) (own := [1]) (e := fun x => .str (SX.S x)) (g := fun x => (rdNumP x).map fun (n : Nat) => D.int n)
      (l := TL.spl [44] 0 [] l) (comma_ev l hl (by simp [cfg_call, cfg_N, ev_var, ev_non, ev_bl, ev_int, ev_str, ev_glb, ev_bin, ev_neg, ev_no, ev_cmp, ev_chain, ev_isN, ev_and, ev_or, ev_ife, ev_call, ev_bi, ev_isi, ev_me, ev_repl, ev_lm, ev_idx, ev_slc, ev_rev, ev_tup, ev_lstF, ev_lstT, ev_dct, es_nil, es_cons, eo_none, eo_some, ss_nil, ss_cons, s_asg, s_asgc, s_par2, s_par3, s_aug, s_sset, s_xpr, s_ifs, s_ret, s_raise, s_try, it_of, it_rng1, eb_none, eb_some, b_ok, b_exc, t_ok, t_exc, r_some, RS.next, bindTg, List.getElem?_cons_zero, List.getElem?_cons_succ, List.set_cons_zero, List.set_cons_succ, ss_nil])) rfl (le_big (spl_le hl)) (fun x hx => ⟨_, rfl, by
        have := read_digits_ev (M := M) (k := k) (S := S) x (by have := spl_mem hx; omega)
        have e : evE (cfgN txt.prog M (k + 1)) (.call 16 (.cons (.var 1) .nil)) ((wipeE [some (.str (SX.S l)), none] [1]).set 1 (some (.str (SX.S x)))) S = callN txt.prog M (k + 1) 16 [.str (SX.S x)] S := by
          simp [cfg_call, cfg_N, ev_var, ev_non, ev_bl, ev_int, ev_str, ev_glb, ev_bin, ev_neg, ev_no, ev_cmp, ev_chain, ev_isN, ev_and, ev_or, ev_ife, ev_call, ev_bi, ev_isi, ev_me, ev_repl, ev_lm, ev_idx, ev_slc, ev_rev, ev_tup, ev_lstF, ev_lstT, ev_dct, es_nil, es_cons, eo_none, eo_some, ss_nil, ss_cons, s_asg, s_asgc, s_par2, s_par3, s_aug, s_sset, s_xpr, s_ifs, s_ret, s_raise, s_try, it_of, it_rng1, eb_none, eb_some, b_ok, b_exc, t_ok, t_exc, r_some, RS.next, bindTg, List.getElem?_cons_zero, List.getElem?_cons_succ, List.set_cons_zero, List.set_cons_succ, wipeE]
        rw [e]; exact this⟩)
    rw [mapM_map] at hc
    have := tuple_isR hc
    rw [Option.map_map] at this
    exact this
/-! ### .. as the law reads them -/
theorem mapM_all {α β : Type} {f : α → Option β} : ∀ {l : List α} {ys : List β}, l.mapM f = some ys → l.map f = ys.map some
  | [], ys, h => by cases h; rfl
  | a :: l, ys, h => by
    rw [List.mapM_cons] at h
    cases q : f a with
    | none => rw [q] at h; cases h
    | some b =>
      rw [q] at h
      cases q2 : l.mapM f with
      | none => rw [q2] at h; cases h
      | some bs =>
        rw [q2] at h; cases h
        rw [List.map_cons, List.map_cons, q, mapM_all q2]
theorem mapM_none {α β : Type} {f : α → Option β} : ∀ {l : List α}, l.mapM f = none → ∃ a ∈ l, f a = none
  | [], h => by cases h
  | a :: l, h => by
    rw [List.mapM_cons] at h
    cases q : f a with
    | none => exact ⟨a, List.mem_cons_self, q⟩
    | some b =>
      rw [q] at h
      cases q2 : l.mapM f with
      | none => obtain ⟨x, hx, e⟩ := mapM_none q2; exact ⟨x, List.mem_cons_of_mem _ hx, e⟩
      | some bs => rw [q2] at h; cases h
theorem mapM_ext {α β : Type} {f g : α → Option β} : ∀ {l : List α}, (∀ a ∈ l, f a = g a) → l.mapM f = l.mapM g
  | [], _ => rfl
  | a :: l, h => by rw [List.mapM_cons, List.mapM_cons, h a List.mem_cons_self, mapM_ext fun x hx => h x (List.mem_cons_of_mem _ hx)]
def optV : Option Nat → L2.V
  | none => .non
  | some n => .int n
theorem scVs_opt : ∀ l : List (Option Nat), scVs (l.map optD) = some (l.map optV)
  | [] => rfl
  | o :: l => by
    rw [List.map_cons, List.map_cons]
    unfold scVs
    rw [scVs_opt l]
    cases o <;> rfl
theorem in_opt (T : Sto) (l : List (Option Nat)) : evCmp .isin T .non (.lst (l.map optD)) = some (l.any Option.isNone) := by
  have h : inSc T .non (.lst (l.map optD)) = some (L2.inV .non (l.map optV)) := by
    unfold inSc asL scV
    dsimp only
    rw [scVs_opt]
  show evIn T .non (.lst (l.map optD)) = _
  unfold evIn
  dsimp only
  rw [h]
  dsimp only
  unfold L2.inV
  rw [List.any_map]
  congr 1
  congr 1
  funext o
  cases o <;> rfl
theorem in_opt2 (T : Sto) (a b : Option Nat) : evCmp .isin T .non (.tup [optD a, optD b]) = some (a.isNone || b.isNone) := by
  cases a <;> cases b <;> rfl
theorem asInts_nums : ∀ ns : List Nat, asInts (ns.map (fun (n : Nat) => D.int n) ++ [.int 0]) = some (ns.map (fun (n : Nat) => (n : Int)) ++ [0])
  | [] => rfl
  | n :: ns => by
    rw [List.map_cons, List.map_cons, List.cons_append, List.cons_append]
    unfold asInts
    rw [asInts_nums ns]; rfl
theorem foldl_max : ∀ (l : List Int) (a : Int), decide (999 < l.foldl (fun a b => if a < b then b else a) a) = (decide (999 < a) || l.any fun b => decide (999 < b))
  | [], a => by rw [List.foldl_nil, List.any_nil, Bool.or_false]
  | b :: l, a => by
    rw [List.foldl_cons, foldl_max l, List.any_cons]
    rw [Bool.eq_iff_iff]
    simp only [Bool.or_eq_true, decide_eq_true_eq]
    split <;> constructor <;> intro h <;> rcases h with h | h <;> first | omega | (simp only [h, or_true]) | (rcases h with h | h <;> first | omega | (simp only [h, or_true]))
theorem max_ev (T : Sto) (ns : List Nat) : ∃ m, evBi .max T [.lst (ns.map (fun (n : Nat) => D.int n) ++ [.int 0])] = some (.int m) ∧ decide (999 < m) = !(ns.all fun n => decide (n ≤ 999)) := by
  unfold evBi
  dsimp only
  unfold asQ asL
  simp only [Option.bind_some]
  rw [asInts_nums]
  simp only [Option.bind_some]
  cases ns with
  | nil => exact ⟨0, rfl, rfl⟩
  | cons n ns =>
    refine ⟨_, rfl, ?_⟩
    rw [foldl_max]
    have h : ∀ ns : List Nat, ((ns.map (fun (n : Nat) => (n : Int)) ++ [0]).any fun b => decide (999 < b)) = !(ns.all fun n => decide (n ≤ 999)) := by
      intro ns
      induction ns with
      | nil => rfl
      | cons n ns ih =>
        rw [List.map_cons, List.cons_append, List.any_cons, ih, List.all_cons, Bool.not_and]
        congr 1
        rw [Bool.eq_iff_iff]
        simp only [decide_eq_true_eq, Bool.not_eq_true', decide_eq_false_iff_not]
        omega
    have e : ∀ n : Nat, decide (999 < (n : Int)) = !decide (n ≤ 999) := fun n => by
      rw [Bool.eq_iff_iff]
      simp only [decide_eq_true_eq, Bool.not_eq_true', decide_eq_false_iff_not]
      omega
    show (decide (999 < (n : Int)) || ((ns.map (fun (n : Nat) => (n : Int)) ++ [0]).any fun b => decide (999 < b))) = _
    rw [h ns, List.all_cons, Bool.not_and, e]
def numsOk (least : Nat) (ns : List Nat) : Bool := decide (least ≤ ns.length) && ns.all fun n => decide (n ≤ 999)
def lawNums (l : List Nat) (least : Nat) : Option (List Nat) := (rdNumsP l).filter (numsOk least)
def onumsD : Option (List Nat) → D
  | none => .non
  | some ns => numsD ns
theorem law_read_numbers_ev (l : List Nat) (least : Nat) (hl : l.length ≤ 4000) : callN txt.prog M (k + 2) 36 [.str (SX.S l), .int least] S = .ok (onumsD (lawNums l least)) S := by
  have q := eq_S S l [45]
  obtain ⟨os, h1, h2⟩ : ∃ os : List (Option Nat), evE (cfgN txt.prog M (k + 1)) (.ife (.cmp .eq (.var 0) (.str "-")) (.lst false .nil) (.comp false (.call 35 (.cons (.var 3) .nil)) (.nm 3) (.of (.me .split (.var 0) (.cons (.str ",") .nil))) .none [3])) [some (.str (SX.S l)), some (.int least), none, none] S = .ok (.lst (os.map optD)) S ∧ 
      (∀ ns, rdNumsP l = some ns → os = ns.map some) ∧ (rdNumsP l = none → none ∈ os) ∧ os.length ≤ 1000000 := by
    by_cases h : l = [45]
    · rw [decide_eq_true h] at q
      refine ⟨[], ?_, fun ns hn => ?_, fun hn => ?_, by simp⟩
      · generalize SX.S l = z at *
        simp [cfg_call, cfg_N, ev_var, ev_non, ev_bl, ev_int, ev_str, ev_glb, ev_bin, ev_neg, ev_no, ev_cmp, ev_chain, ev_isN, ev_and, ev_or, ev_ife, ev_call, ev_bi, ev_isi, ev_me, ev_repl, ev_lm, ev_idx, ev_slc, ev_rev, ev_tup, ev_lstF, ev_lstT, ev_dct, es_nil, es_cons, eo_none, eo_some, ss_nil, ss_cons, s_asg, s_asgc, s_par2, s_par3, s_aug, s_sset, s_xpr, s_ifs, s_ret, s_raise, s_try, it_of, it_rng1, eb_none, eb_some, b_ok, b_exc, t_ok, t_exc, r_some, RS.next, bindTg, List.getElem?_cons_zero, List.getElem?_cons_succ, List.set_cons_zero, List.set_cons_succ, lit_m, q]
      · unfold rdNumsP at hn; rw [if_pos h] at hn; cases hn; rfl
      · unfold rdNumsP at hn; rw [if_pos h] at hn; cases hn
    · rw [decide_eq_false h] at q
      have hc := comp_al (c := cfgN txt.prog M (k + 1)) (env := [some (.str (SX.S l)), some (.int least), none, none]) (S := S) (src := .me .split (.var 0) (.cons (.str ",") .nil)) (elt := .call 35 (.cons (.var 3) .nil)) (tg := .nm 3) (own := [3]) (e := fun x => .str (SX.S x)) (g := fun x => optD (rdNum x))
        (l := TL.spl [44] 0 [] l) (comma_ev l (by omega) (by simp [cfg_call, cfg_N, ev_var, ev_non, ev_bl, ev_int, ev_str, ev_glb, ev_bin, ev_neg, ev_no, ev_cmp, ev_chain, ev_isN, ev_and, ev_or, ev_ife, ev_call, ev_bi, ev_isi, ev_me, ev_repl, ev_lm, ev_idx, ev_slc, ev_rev, ev_tup, ev_lstF, ev_lstT, ev_dct, es_nil, es_cons, eo_none, eo_some, ss_nil, ss_cons, s_asg, s_asgc, s_par2, s_par3, s_aug, s_sset, s_xpr, s_ifs, s_ret, s_raise, s_try, it_of, it_rng1, eb_none, eb_some, b_ok, b_exc, t_ok, t_exc, r_some, RS.next, bindTg, List.getElem?_cons_zero, List.getElem?_cons_succ, List.set_cons_zero, List.set_cons_succ, ss_nil])) rfl (le_big (spl_le (by omega))) (fun x hx => ⟨_, rfl, by
          have := law_number_ev (M := M) (k := k) (S := S) x (by have := spl_mem hx; omega)
          simp [cfg_call, cfg_N, ev_var, ev_non, ev_bl, ev_int, ev_str, ev_glb, ev_bin, ev_neg, ev_no, ev_cmp, ev_chain, ev_isN, ev_and, ev_or, ev_ife, ev_call, ev_bi, ev_isi, ev_me, ev_repl, ev_lm, ev_idx, ev_slc, ev_rev, ev_tup, ev_lstF, ev_lstT, ev_dct, es_nil, es_cons, eo_none, eo_some, ss_nil, ss_cons, s_asg, s_asgc, s_par2, s_par3, s_aug, s_sset, s_xpr, s_ifs, s_ret, s_raise, s_try, it_of, it_rng1, eb_none, eb_some, b_ok, b_exc, t_ok, t_exc, r_some, RS.next, bindTg, List.getElem?_cons_zero, List.getElem?_cons_succ, List.set_cons_zero, List.set_cons_succ, wipeE, this]⟩)
      have hr : rdNumsP l = (TL.spl [44] 0 [] l).mapM rdNum := by
        unfold rdNumsP
        rw [if_neg h]
        exact mapM_ext fun x hx => rdNumP_of (by have := spl_mem hx; omega)
      refine ⟨(TL.spl [44] 0 [] l).map rdNum, ?_, fun ns hn => ?_, fun hn => ?_, by rw [List.length_map]; exact spl_le (by omega)⟩
      · rw [List.map_map]
        have e : (optD ∘ rdNum) = fun x => optD (rdNum x) := rfl
        rw [e]
        generalize SX.S l = z at *
        simp [cfg_call, cfg_N, ev_var, ev_non, ev_bl, ev_int, ev_str, ev_glb, ev_bin, ev_neg, ev_no, ev_cmp, ev_chain, ev_isN, ev_and, ev_or, ev_ife, ev_call, ev_bi, ev_isi, ev_me, ev_repl, ev_lm, ev_idx, ev_slc, ev_rev, ev_tup, ev_lstF, ev_lstT, ev_dct, es_nil, es_cons, eo_none, eo_some, ss_nil, ss_cons, s_asg, s_asgc, s_par2, s_par3, s_aug, s_sset, s_xpr, s_ifs, s_ret, s_raise, s_try, it_of, it_rng1, eb_none, eb_some, b_ok, b_exc, t_ok, t_exc, r_some, RS.next, bindTg, List.getElem?_cons_zero, List.getElem?_cons_succ, List.set_cons_zero, List.set_cons_succ, lit_m, q, hc]
      · rw [hr] at hn; exact mapM_all hn
      · rw [hr] at hn
        obtain ⟨x, hx, e⟩ := mapM_none hn
        exact List.mem_map.mpr ⟨x, hx, e⟩
  obtain ⟨h2, h3, h4⟩ := h2
  refine call_ret (d := f36) rfl rfl ⟨[some (.str (SX.S l)), some (.int least), some (.lst (os.map optD)), none], ?_⟩
  unfold f36
  refine (ss_go (env1 := [some (.str (SX.S l)), some (.int least), some (.lst (os.map optD)), none]) (S1 := S) (by rw [s_asg]; show (evE _ _ [some (.str (SX.S l)), some (.int least), none, none] S).toS _ _ = _; rw [h1]; rfl)).trans ?_
  have hin := in_opt S os
  cases hr : rdNumsP l with
  | none =>
    have e : lawNums l least = none := by unfold lawNums; rw [hr]; rfl
    rw [e]
    have : os.any Option.isNone = true := List.any_eq_true.mpr ⟨none, h3 hr, rfl⟩
    rw [this] at hin
    simp [cfg_call, cfg_N, ev_var, ev_non, ev_bl, ev_int, ev_str, ev_glb, ev_bin, ev_neg, ev_no, ev_cmp, ev_chain, ev_isN, ev_and, ev_or, ev_ife, ev_call, ev_bi, ev_isi, ev_me, ev_repl, ev_lm, ev_idx, ev_slc, ev_rev, ev_tup, ev_lstF, ev_lstT, ev_dct, es_nil, es_cons, eo_none, eo_some, ss_nil, ss_cons, s_asg, s_asgc, s_par2, s_par3, s_aug, s_sset, s_xpr, s_ifs, s_ret, s_raise, s_try, it_of, it_rng1, eb_none, eb_some, b_ok, b_exc, t_ok, t_exc, r_some, RS.next, bindTg, List.getElem?_cons_zero, List.getElem?_cons_succ, List.set_cons_zero, List.set_cons_succ, hin, onumsD]
  | some ns =>
    have ho := h2 ns hr
    have hm : os.map optD = ns.map fun (n : Nat) => .int n := by rw [ho, List.map_map]; rfl
    have hno : os.any Option.isNone = false := by rw [ho, List.any_map]; simp [Function.comp_def]
    rw [hno] at hin
    rw [hm] at hin ⊢
    obtain ⟨m, hm1, hm2⟩ := max_ev S ns
    have hln : evBi .len S [.lst (ns.map fun (n : Nat) => D.int n)] = some (.int ns.length) := by
      show some (D.int (ns.map fun (n : Nat) => D.int n).length) = _
      rw [List.length_map]
    have hnl : ns.length ≤ 1000000 := by rw [ho, List.length_map] at h4; exact h4
    have hadd : evBin .add S (.lst (ns.map fun (n : Nat) => D.int n)) (.lst [.int 0]) = some (.lst (ns.map (fun (n : Nat) => D.int n) ++ [.int 0])) := by
      unfold evBin
      dsimp only
      unfold asL
      dsimp only
      rw [if_pos]
      have : (1000001 : Nat) ≤ sizeLine := by rw [sizeLine_eq]; decide
      simp only [List.length_map, List.length_cons, List.length_nil]; omega
    have hgt := evgt S m 999
    rw [hm2] at hgt
    have hlt := evlt S ns.length least
    by_cases hle : least ≤ ns.length
    · rw [decide_eq_false (by omega)] at hlt
      cases ha : ns.all fun n => decide (n ≤ 999) with
      | true =>
        rw [ha] at hgt
        have e : lawNums l least = some ns := by unfold lawNums numsOk; rw [hr]; simp only [Option.filter, ha, decide_eq_true hle, Bool.and_self, if_true]
        rw [e]
        have htu : evBi .tuple S [.lst (ns.map fun (n : Nat) => D.int n)] = some (numsD ns) := rfl
        show _ = RS.ok (.rt (numsD ns)) _ S
        simp [cfg_call, cfg_N, ev_var, ev_non, ev_bl, ev_int, ev_str, ev_glb, ev_bin, ev_neg, ev_no, ev_cmp, ev_chain, ev_isN, ev_and, ev_or, ev_ife, ev_call, ev_bi, ev_isi, ev_me, ev_repl, ev_lm, ev_idx, ev_slc, ev_rev, ev_tup, ev_lstF, ev_lstT, ev_dct, es_nil, es_cons, eo_none, eo_some, ss_nil, ss_cons, s_asg, s_asgc, s_par2, s_par3, s_aug, s_sset, s_xpr, s_ifs, s_ret, s_raise, s_try, it_of, it_rng1, eb_none, eb_some, b_ok, b_exc, t_ok, t_exc, r_some, RS.next, bindTg, List.getElem?_cons_zero, List.getElem?_cons_succ, List.set_cons_zero, List.set_cons_succ, hin, hln, hlt, hadd, hm1, hgt, htu, sizeLine_eq]
      | false =>
        rw [ha] at hgt
        have e : lawNums l least = none := by unfold lawNums numsOk; rw [hr]; simp only [Option.filter, ha, Bool.and_false]; rfl
        rw [e]
        simp [cfg_call, cfg_N, ev_var, ev_non, ev_bl, ev_int, ev_str, ev_glb, ev_bin, ev_neg, ev_no, ev_cmp, ev_chain, ev_isN, ev_and, ev_or, ev_ife, ev_call, ev_bi, ev_isi, ev_me, ev_repl, ev_lm, ev_idx, ev_slc, ev_rev, ev_tup, ev_lstF, ev_lstT, ev_dct, es_nil, es_cons, eo_none, eo_some, ss_nil, ss_cons, s_asg, s_asgc, s_par2, s_par3, s_aug, s_sset, s_xpr, s_ifs, s_ret, s_raise, s_try, it_of, it_rng1, eb_none, eb_some, b_ok, b_exc, t_ok, t_exc, r_some, RS.next, bindTg, List.getElem?_cons_zero, List.getElem?_cons_succ, List.set_cons_zero, List.set_cons_succ, hin, hln, hlt, hadd, hm1, hgt, onumsD, sizeLine_eq]
    · rw [decide_eq_true (by omega)] at hlt
      have e : lawNums l least = none := by unfold lawNums numsOk; rw [hr]; simp only [Option.filter, decide_eq_false hle, Bool.false_and]; rfl
      rw [e]
      simp [cfg_call, cfg_N, ev_var, ev_non, ev_bl, ev_int, ev_str, ev_glb, ev_bin, ev_neg, ev_no, ev_cmp, ev_chain, ev_isN, ev_and, ev_or, ev_ife, ev_call, ev_bi, ev_isi, ev_me, ev_repl, ev_lm, ev_idx, ev_slc, ev_rev, ev_tup, ev_lstF, ev_lstT, ev_dct, es_nil, es_cons, eo_none, eo_some, ss_nil, ss_cons, s_asg, s_asgc, s_par2, s_par3, s_aug, s_sset, s_xpr, s_ifs, s_ret, s_raise, s_try, it_of, it_rng1, eb_none, eb_some, b_ok, b_exc, t_ok, t_exc, r_some, RS.next, bindTg, List.getElem?_cons_zero, List.getElem?_cons_succ, List.set_cons_zero, List.set_cons_succ, hin, hln, hlt, onumsD]
end
end K54

set_option linter.all false
set_option maxRecDepth 100000
set_option maxHeartbeats 1000000
set_option exponentiation.threshold 20000
namespace K54
open PySem MP
theorem digitsVal_lt : ∀ (l : List Nat), l.all isDig = true → NumText.digitsVal l < 10 ^ l.length := by
  have h : ∀ (l : List Nat) (a : Nat), l.all isDig = true → l.foldl (fun acc c => acc * 10 + (c - 48)) a < (a + 1) * 10 ^ l.length := by
    intro l
    induction l with
    | nil => intro a _; simp
    | cons c l ih =>
      intro a hl
      rw [List.all_cons, Bool.and_eq_true] at hl
      have hc := hl.1
      simp only [isDig, Bool.and_eq_true, decide_eq_true_eq] at hc
      have := ih (a * 10 + (c - 48)) hl.2
      rw [List.foldl_cons, List.length_cons, Nat.pow_succ]
      refine Nat.lt_of_lt_of_le this ?_
      have h2 : a * 10 + (c - 48) + 1 ≤ (a + 1) * 10 := by omega
      calc (a * 10 + (c - 48) + 1) * 10 ^ l.length ≤ ((a + 1) * 10) * 10 ^ l.length := Nat.mul_le_mul_right _ h2
        _ = (a + 1) * (10 ^ l.length * 10) := by rw [Nat.mul_assoc, Nat.mul_comm 10]
  intro l hl
  have := h l 0 hl
  simpa [NumText.digitsVal] using this
theorem rdNum_lt {l : List Nat} {n : Nat} (h : rdNum l = some n) : n < 10 ^ l.length := by
  unfold rdNum at h
  split at h
  · rename_i g
    cases h
    unfold goodNum at g
    rw [Bool.and_eq_true] at g
    exact digitsVal_lt l g.1
  · cases h
theorem rdNumP_lt {l : List Nat} {n : Nat} (h : rdNumP l = some n) : n < 10 ^ l.length ∧ n < 10 ^ 4000 := by
  unfold rdNumP at h
  split at h
  · rename_i g
    have := rdNum_lt h
    exact ⟨this, Nat.lt_of_lt_of_le this (Nat.pow_le_pow_right (by decide) g)⟩
  · cases h
section
variable {M k : Nat} {S : Sto}
theorem lowest_ev (hM : 10 ^ 4100 ≤ M) (a b : Nat) (hb : 0 < b) (h : b < 10 ^ 2000) : callN txt.prog M (k + 2) 2 [.int a, .int b] S = .ok (.tup [.int ((a : Int) / (Nat.gcd a b : Nat)), .int ((b : Int) / (Nat.gcd a b : Nat))]) S := by
  have c1 := common_ev (M := M) (k := k) (S := S) a b (by
    rw [Int.natAbs_natCast]
    have : (10 : Nat) ^ 2000 ≤ 10 ^ 4100 := Nat.pow_le_pow_right (by decide) (by decide)
    omega)
  rw [Int.natAbs_natCast, Int.natAbs_natCast] at c1
  have hg : (0 : Int) < (Nat.gcd a b : Nat) := by have := Nat.gcd_pos_of_pos_right a hb; omega
  have gb := gcd_bound (a := a) hb h
  have d1 : ∀ i : Int, evBin .fdiv S (.int i) (.int (Nat.gcd a b : Nat)) = some (.int (i / (Nat.gcd a b : Nat))) := fun i => by
    unfold evBin
    dsimp only
    rw [if_pos ⟨hg, gb⟩]
  have l1 := evlt S b 0
  rw [decide_eq_false (by omega)] at l1
  clear h gb
  generalize hgg : ((Nat.gcd a b : Nat) : Int) = g at *
  refine call_ret (d := f2) rfl rfl ⟨[some (.int a), some (.int b), some (.int g)], ?_⟩
  simp [cfg_call, cfg_N, ev_var, ev_non, ev_bl, ev_int, ev_str, ev_glb, ev_bin, ev_neg, ev_no, ev_cmp, ev_chain, ev_isN, ev_and, ev_or, ev_ife, ev_call, ev_bi, ev_isi, ev_me, ev_repl, ev_lm, ev_idx, ev_slc, ev_rev, ev_tup, ev_lstF, ev_lstT, ev_dct, es_nil, es_cons, eo_none, eo_some, ss_nil, ss_cons, s_asg, s_asgc, s_par2, s_par3, s_aug, s_sset, s_xpr, s_ifs, s_ret, s_raise, s_try, it_of, it_rng1, eb_none, eb_some, b_ok, b_exc, t_ok, t_exc, r_some, RS.next, bindTg, List.getElem?_cons_zero, List.getElem?_cons_succ, List.set_cons_zero, List.set_cons_succ, f2, startE, c1, l1, d1, ss_nil, sizeLine_eq]
/-! ### fractions -/
def rdVal (l : List Nat) : Option (Option (Nat × Nat)) :=
  if l = [45] then some none else
  match TL.par [47] [] l with
  | none => (rdNumP l).map fun n => some (n, 1)
  | some (a, b) => match rdNumP a, rdNumP b with
    | some n, some d => if 1 < d ∧ Nat.gcd n d = 1 then some (some (n, d)) else none
    | _, _ => none
theorem neTup_ev (T : Sto) {n d g : Nat} (x y : Int) : evCmp .ne T (.tup [.int x, .int y]) (.tup [.int n, .int d]) = some (!(x == (n : Int) && y == (d : Int))) := by
  have := eqPair T x y n d
  show (evEq T (.tup [.int x, .int y]) (.tup [.int n, .int d])).map _ = _
  have h : evEq T (.tup [.int x, .int y]) (.tup [.int n, .int d]) = some (x == (n : Int) && y == (d : Int)) := this
  rw [h]; rfl
theorem low_ne (T : Sto) {n d : Nat} (hd : 0 < d) : evCmp .ne T (.tup [.int ((n : Int) / (Nat.gcd n d : Nat)), .int ((d : Int) / (Nat.gcd n d : Nat))]) (.tup [.int n, .int d]) = some (!decide (Nat.gcd n d = 1)) := by
  rw [neTup_ev (g := 0), low_eq hd]
  congr 2
  rw [decide_eq_decide]
  omega
/-- the checks behind the two numbers -/
def valTest (d : Nat) (sl : Bool) (low : Bool) : Bool := decide (d = 0) || (!low || (sl && decide (d = 1)))
theorem read_value_ev (hM : 10 ^ 4100 ≤ M) (l : List Nat) (hl : l.length ≤ 100000) (h2 : l.length ≤ 2000 ∨ TL.par [47] [] l = none) : IsR 0 (callN txt.prog M (k + 3) 18 [.str (SX.S l)] S) ((rdVal l).map valD) S := by
  refine call_isR (d := f18) rfl rfl ?_
  have q := eq_S S l [45]
  unfold rdVal
  by_cases h : l = [45]
  · rw [decide_eq_true h] at q
    rw [if_pos h]
    refine ⟨[some (.str (SX.S l)), none, none, none, none], ?_⟩
    generalize SX.S l = z at *
    simp [cfg_call, cfg_N, ev_var, ev_non, ev_bl, ev_int, ev_str, ev_glb, ev_bin, ev_neg, ev_no, ev_cmp, ev_chain, ev_isN, ev_and, ev_or, ev_ife, ev_call, ev_bi, ev_isi, ev_me, ev_repl, ev_lm, ev_idx, ev_slc, ev_rev, ev_tup, ev_lstF, ev_lstT, ev_dct, es_nil, es_cons, eo_none, eo_some, ss_nil, ss_cons, s_asg, s_asgc, s_par2, s_par3, s_aug, s_sset, s_xpr, s_ifs, s_ret, s_raise, s_try, it_of, it_rng1, eb_none, eb_some, b_ok, b_exc, t_ok, t_exc, r_some, RS.next, bindTg, List.getElem?_cons_zero, List.getElem?_cons_succ, List.set_cons_zero, List.set_cons_succ, f18, startE, lit_m, q, valD]
  · rw [decide_eq_false h] at q
    rw [if_neg h]
    have g0 : evS (cfgN txt.prog M (k + 2)) (.ifs (.cmp .eq (.var 0) (.str "-")) (.cons (.ret .non) .nil) .nil) [some (.str (SX.S l)), none, none, none, none] S = .ok .nx [some (.str (SX.S l)), none, none, none, none] S := by
      generalize SX.S l = z at *
      simp [cfg_call, cfg_N, ev_var, ev_non, ev_bl, ev_int, ev_str, ev_glb, ev_bin, ev_neg, ev_no, ev_cmp, ev_chain, ev_isN, ev_and, ev_or, ev_ife, ev_call, ev_bi, ev_isi, ev_me, ev_repl, ev_lm, ev_idx, ev_slc, ev_rev, ev_tup, ev_lstF, ev_lstT, ev_dct, es_nil, es_cons, eo_none, eo_some, ss_nil, ss_cons, s_asg, s_asgc, s_par2, s_par3, s_aug, s_sset, s_xpr, s_ifs, s_ret, s_raise, s_try, it_of, it_rng1, eb_none, eb_some, b_ok, b_exc, t_ok, t_exc, r_some, RS.next, bindTg, List.getElem?_cons_zero, List.getElem?_cons_succ, List.set_cons_zero, List.set_cons_succ, lit_m, q, ss_nil]
    unfold f18
    refine isS_go g0 ?_
    cases hp : TL.par [47] [] l with
    | none =>
      have pv := part_ev_none S (by decide) hl hp
      have g1 : evS (cfgN txt.prog M (k + 2)) (.asg (.tup [2, 3, 4]) (.me .partition (.var 0) (.cons (.str "/") .nil))) [some (.str (SX.S l)), none, none, none, none] S = .ok .nx [some (.str (SX.S l)), none, some (.str (SX.S l)), some (.str (SX.S [])), some (.str (SX.S []))] S := by
        generalize SX.S l = z at *
        simp [cfg_call, cfg_N, ev_var, ev_non, ev_bl, ev_int, ev_str, ev_glb, ev_bin, ev_neg, ev_no, ev_cmp, ev_chain, ev_isN, ev_and, ev_or, ev_ife, ev_call, ev_bi, ev_isi, ev_me, ev_repl, ev_lm, ev_idx, ev_slc, ev_rev, ev_tup, ev_lstF, ev_lstT, ev_dct, es_nil, es_cons, eo_none, eo_some, ss_nil, ss_cons, s_asg, s_asgc, s_par2, s_par3, s_aug, s_sset, s_xpr, s_ifs, s_ret, s_raise, s_try, it_of, it_rng1, eb_none, eb_some, b_ok, b_exc, t_ok, t_exc, r_some, RS.next, bindTg, List.getElem?_cons_zero, List.getElem?_cons_succ, List.set_cons_zero, List.set_cons_succ, lit_sl, isStrD, pv]
      refine isS_go g1 ?_
      have rd := read_digits_ev (M := M) (k := k + 1) (S := S) l (by omega)
      dsimp only
      cases hr : rdNumP l with
      | none =>
        rw [hr] at rd
        obtain ⟨m, rd⟩ := rd
        refine ⟨m, [some (.str (SX.S l)), none, some (.str (SX.S l)), some (.str (SX.S [])), some (.str (SX.S []))], ?_⟩
        generalize SX.S l = z at *
        simp only [cfg_call, cfg_N, ev_var, ev_non, ev_bl, ev_int, ev_str, ev_glb, ev_bin, ev_neg, ev_no, ev_cmp, ev_chain, ev_isN, ev_and, ev_or, ev_ife, ev_call, ev_bi, ev_isi, ev_me, ev_repl, ev_lm, ev_idx, ev_slc, ev_rev, ev_tup, ev_lstF, ev_lstT, ev_dct, es_nil, es_cons, eo_none, eo_some, ss_nil, ss_cons, s_asg, s_asgc, s_par2, s_par3, s_aug, s_sset, s_xpr, s_ifs, s_ret, s_raise, s_try, it_of, it_rng1, eb_none, eb_some, b_ok, b_exc, t_ok, t_exc, r_some, RS.next, bindTg, List.getElem?_cons_zero, List.getElem?_cons_succ, List.set_cons_zero, List.set_cons_succ, ↓reduceIte, rd, b_exc, t_exc]
      | some n =>
        rw [hr] at rd
        have rd : _ = _ := rd
        have hn := (rdNumP_lt hr).2
        have qe := ne_S S [] []
        have lo := lowest_ev (M := M) (k := k) (S := S) hM n 1 (by decide) (Nat.lt_of_lt_of_le (show 1 < 10 ^ 1 by decide) (Nat.pow_le_pow_right (by decide) (by decide)))
        have ne := low_ne S (n := n) (d := 1) (by decide)
        simp only [Nat.gcd_one_right] at lo ne
        have i0 : evIdx S (.tup [.int n, .int 1]) (.int 0) = some (.int n) := rfl
        have i1 : evIdx S (.tup [.int n, .int 1]) (.int 1) = some (.int 1) := rfl
        have e1 := eveq S 1 0
        have e2 := eveq S 1 1
        refine ⟨[some (.str (SX.S l)), some (.tup [.int n, .int 1]), some (.str (SX.S l)), some (.str (SX.S [])), some (.str (SX.S []))], ?_⟩
        show _ = RS.ok (.rt (.tup [.int n, .int (1 : Nat)])) _ S
        clear hn
        generalize SX.S l = z at *
        have lo : callN txt.prog M (k + 2) 2 [.int n, .int 1] S = .ok (.tup [.int ((n : Int) / ((1 : Nat) : Int)), .int (((1 : Nat) : Int) / ((1 : Nat) : Int))]) S := lo
        have ne : evCmp .ne S (.tup [.int ((n : Int) / ((1 : Nat) : Int)), .int (((1 : Nat) : Int) / ((1 : Nat) : Int))]) (.tup [.int n, .int 1]) = some false := ne
        generalize (D.tup [.int ((n : Int) / ((1 : Nat) : Int)), .int (((1 : Nat) : Int) / ((1 : Nat) : Int))]) = w at *
        simp [cfg_call, cfg_N, ev_var, ev_non, ev_bl, ev_int, ev_str, ev_glb, ev_bin, ev_neg, ev_no, ev_cmp, ev_chain, ev_isN, ev_and, ev_or, ev_ife, ev_call, ev_bi, ev_isi, ev_me, ev_repl, ev_lm, ev_idx, ev_slc, ev_rev, ev_tup, ev_lstF, ev_lstT, ev_dct, es_nil, es_cons, eo_none, eo_some, ss_nil, ss_cons, s_asg, s_asgc, s_par2, s_par3, s_aug, s_sset, s_xpr, s_ifs, s_ret, s_raise, s_try, it_of, it_rng1, eb_none, eb_some, b_ok, b_exc, t_ok, t_exc, r_some, RS.next, bindTg, List.getElem?_cons_zero, List.getElem?_cons_succ, List.set_cons_zero, List.set_cons_succ, rd, lit_e, qe, i0, i1, e1, e2, lo, ne, ss_nil, sizeLine_eq]
    | some ab =>
      obtain ⟨a, b⟩ := ab
      have hab := par_len hp
      have h2 : l.length ≤ 2000 := by
        rcases h2 with h2 | h2
        · exact h2
        · rw [hp] at h2; cases h2
      simp only [List.length_nil, Nat.add_zero] at hab
      have pv := part_ev_some S (by decide) hl hp
      have g1 : evS (cfgN txt.prog M (k + 2)) (.asg (.tup [2, 3, 4]) (.me .partition (.var 0) (.cons (.str "/") .nil))) [some (.str (SX.S l)), none, none, none, none] S = .ok .nx [some (.str (SX.S l)), none, some (.str (SX.S a)), some (.str (SX.S [47])), some (.str (SX.S b))] S := by
        generalize SX.S l = z at *
        simp [cfg_call, cfg_N, ev_var, ev_non, ev_bl, ev_int, ev_str, ev_glb, ev_bin, ev_neg, ev_no, ev_cmp, ev_chain, ev_isN, ev_and, ev_or, ev_ife, ev_call, ev_bi, ev_isi, ev_me, ev_repl, ev_lm, ev_idx, ev_slc, ev_rev, ev_tup, ev_lstF, ev_lstT, ev_dct, es_nil, es_cons, eo_none, eo_some, ss_nil, ss_cons, s_asg, s_asgc, s_par2, s_par3, s_aug, s_sset, s_xpr, s_ifs, s_ret, s_raise, s_try, it_of, it_rng1, eb_none, eb_some, b_ok, b_exc, t_ok, t_exc, r_some, RS.next, bindTg, List.getElem?_cons_zero, List.getElem?_cons_succ, List.set_cons_zero, List.set_cons_succ, lit_sl, isStrD, pv]
      refine isS_go g1 ?_
      have qe := ne_S S [47] []
      have ra := read_digits_ev (M := M) (k := k + 1) (S := S) a (by omega)
      have rb := read_digits_ev (M := M) (k := k + 1) (S := S) b (by omega)
      dsimp only
      have qe : evCmp .ne S (.str (SX.S [47])) (.str (SX.S [])) = some true := qe
      generalize SX.S l = z at *
      cases hra : rdNumP a with
      | none =>
        rw [hra] at ra
        obtain ⟨m, ra⟩ := ra
        refine ⟨m, [some (.str z), none, some (.str (SX.S a)), some (.str (SX.S [47])), some (.str (SX.S b))], ?_⟩
        simp only [cfg_call, cfg_N, ev_var, ev_non, ev_bl, ev_int, ev_str, ev_glb, ev_bin, ev_neg, ev_no, ev_cmp, ev_chain, ev_isN, ev_and, ev_or, ev_ife, ev_call, ev_bi, ev_isi, ev_me, ev_repl, ev_lm, ev_idx, ev_slc, ev_rev, ev_tup, ev_lstF, ev_lstT, ev_dct, es_nil, es_cons, eo_none, eo_some, ss_nil, ss_cons, s_asg, s_asgc, s_par2, s_par3, s_aug, s_sset, s_xpr, s_ifs, s_ret, s_raise, s_try, it_of, it_rng1, eb_none, eb_some, b_ok, b_exc, t_ok, t_exc, r_some, RS.next, bindTg, List.getElem?_cons_zero, List.getElem?_cons_succ, List.set_cons_zero, List.set_cons_succ, ↓reduceIte, ra, b_exc, t_exc]
      | some n =>
        rw [hra] at ra
        have ra : _ = _ := ra
        cases hrb : rdNumP b with
        | none =>
          rw [hrb] at rb
          obtain ⟨m, rb⟩ := rb
          refine ⟨m, [some (.str z), none, some (.str (SX.S a)), some (.str (SX.S [47])), some (.str (SX.S b))], ?_⟩
          simp only [cfg_call, cfg_N, ev_var, ev_non, ev_bl, ev_int, ev_str, ev_glb, ev_bin, ev_neg, ev_no, ev_cmp, ev_chain, ev_isN, ev_and, ev_or, ev_ife, ev_call, ev_bi, ev_isi, ev_me, ev_repl, ev_lm, ev_idx, ev_slc, ev_rev, ev_tup, ev_lstF, ev_lstT, ev_dct, es_nil, es_cons, eo_none, eo_some, ss_nil, ss_cons, s_asg, s_asgc, s_par2, s_par3, s_aug, s_sset, s_xpr, s_ifs, s_ret, s_raise, s_try, it_of, it_rng1, eb_none, eb_some, b_ok, b_exc, t_ok, t_exc, r_some, RS.next, bindTg, List.getElem?_cons_zero, List.getElem?_cons_succ, List.set_cons_zero, List.set_cons_succ, ↓reduceIte, ra, rb, lit_e, qe, b_exc, t_exc]
        | some d =>
          rw [hrb] at rb
          have rb : _ = _ := rb
          dsimp only
          have hd : d < 10 ^ 2000 := Nat.lt_of_lt_of_le (rdNumP_lt hrb).1 (Nat.pow_le_pow_right (by decide) (by omega))
          have i0 : evIdx S (.tup [.int n, .int d]) (.int 0) = some (.int n) := rfl
          have i1 : evIdx S (.tup [.int n, .int d]) (.int 1) = some (.int d) := rfl
          have e1 := eveq S d 0
          have e2 := eveq S d 1
          by_cases h0 : d = 0
          · rw [if_neg (by omega)]
            rw [decide_eq_true (by omega)] at e1
            refine ⟨.str "no fraction", [some (.str z), some (.tup [.int n, .int d]), some (.str (SX.S a)), some (.str (SX.S [47])), some (.str (SX.S b))], ?_⟩
            clear hd
            simp [cfg_call, cfg_N, ev_var, ev_non, ev_bl, ev_int, ev_str, ev_glb, ev_bin, ev_neg, ev_no, ev_cmp, ev_chain, ev_isN, ev_and, ev_or, ev_ife, ev_call, ev_bi, ev_isi, ev_me, ev_repl, ev_lm, ev_idx, ev_slc, ev_rev, ev_tup, ev_lstF, ev_lstT, ev_dct, es_nil, es_cons, eo_none, eo_some, ss_nil, ss_cons, s_asg, s_asgc, s_par2, s_par3, s_aug, s_sset, s_xpr, s_ifs, s_ret, s_raise, s_try, it_of, it_rng1, eb_none, eb_some, b_ok, b_exc, t_ok, t_exc, r_some, RS.next, bindTg, List.getElem?_cons_zero, List.getElem?_cons_succ, List.set_cons_zero, List.set_cons_succ, ra, rb, lit_e, qe, i0, i1, e1, ss_nil, sizeLine_eq]
          · rw [decide_eq_false (by omega)] at e1
            have lo := lowest_ev (M := M) (k := k) (S := S) hM n d (by omega) hd
            have ne := low_ne S (n := n) (d := d) (by omega)
            clear hd
            generalize (D.tup [.int ((n : Int) / (Nat.gcd n d : Nat)), .int ((d : Int) / (Nat.gcd n d : Nat))]) = w at *
            by_cases hg : Nat.gcd n d = 1
            · rw [decide_eq_true hg] at ne
              by_cases h1 : d = 1
              · rw [if_neg (by omega)]
                rw [decide_eq_true (by omega)] at e2
                refine ⟨.str "no fraction", [some (.str z), some (.tup [.int n, .int d]), some (.str (SX.S a)), some (.str (SX.S [47])), some (.str (SX.S b))], ?_⟩
                simp [cfg_call, cfg_N, ev_var, ev_non, ev_bl, ev_int, ev_str, ev_glb, ev_bin, ev_neg, ev_no, ev_cmp, ev_chain, ev_isN, ev_and, ev_or, ev_ife, ev_call, ev_bi, ev_isi, ev_me, ev_repl, ev_lm, ev_idx, ev_slc, ev_rev, ev_tup, ev_lstF, ev_lstT, ev_dct, es_nil, es_cons, eo_none, eo_some, ss_nil, ss_cons, s_asg, s_asgc, s_par2, s_par3, s_aug, s_sset, s_xpr, s_ifs, s_ret, s_raise, s_try, it_of, it_rng1, eb_none, eb_some, b_ok, b_exc, t_ok, t_exc, r_some, RS.next, bindTg, List.getElem?_cons_zero, List.getElem?_cons_succ, List.set_cons_zero, List.set_cons_succ, ra, rb, lit_e, qe, i0, i1, e1, e2, lo, ne, ss_nil, sizeLine_eq]
              · rw [if_pos ⟨by omega, hg⟩]
                rw [decide_eq_false (by omega)] at e2
                refine ⟨[some (.str z), some (.tup [.int n, .int d]), some (.str (SX.S a)), some (.str (SX.S [47])), some (.str (SX.S b))], ?_⟩
                simp [cfg_call, cfg_N, ev_var, ev_non, ev_bl, ev_int, ev_str, ev_glb, ev_bin, ev_neg, ev_no, ev_cmp, ev_chain, ev_isN, ev_and, ev_or, ev_ife, ev_call, ev_bi, ev_isi, ev_me, ev_repl, ev_lm, ev_idx, ev_slc, ev_rev, ev_tup, ev_lstF, ev_lstT, ev_dct, es_nil, es_cons, eo_none, eo_some, ss_nil, ss_cons, s_asg, s_asgc, s_par2, s_par3, s_aug, s_sset, s_xpr, s_ifs, s_ret, s_raise, s_try, it_of, it_rng1, eb_none, eb_some, b_ok, b_exc, t_ok, t_exc, r_some, RS.next, bindTg, List.getElem?_cons_zero, List.getElem?_cons_succ, List.set_cons_zero, List.set_cons_succ, ra, rb, lit_e, qe, i0, i1, e1, e2, lo, ne, ss_nil, sizeLine_eq, valD]
            · rw [decide_eq_false hg] at ne
              rw [if_neg (by omega)]
              refine ⟨.str "no fraction", [some (.str z), some (.tup [.int n, .int d]), some (.str (SX.S a)), some (.str (SX.S [47])), some (.str (SX.S b))], ?_⟩
              simp [cfg_call, cfg_N, ev_var, ev_non, ev_bl, ev_int, ev_str, ev_glb, ev_bin, ev_neg, ev_no, ev_cmp, ev_chain, ev_isN, ev_and, ev_or, ev_ife, ev_call, ev_bi, ev_isi, ev_me, ev_repl, ev_lm, ev_idx, ev_slc, ev_rev, ev_tup, ev_lstF, ev_lstT, ev_dct, es_nil, es_cons, eo_none, eo_some, ss_nil, ss_cons, s_asg, s_asgc, s_par2, s_par3, s_aug, s_sset, s_xpr, s_ifs, s_ret, s_raise, s_try, it_of, it_rng1, eb_none, eb_some, b_ok, b_exc, t_ok, t_exc, r_some, RS.next, bindTg, List.getElem?_cons_zero, List.getElem?_cons_succ, List.set_cons_zero, List.set_cons_succ, ra, rb, lit_e, qe, i0, i1, e1, lo, ne, ss_nil, sizeLine_eq]
/-- [value] or None -/
def ovalD : Option (Option (Nat × Nat)) → D
  | none => .non
  | some v => .lst [valD v]
theorem law_read_value_ev (hM : 10 ^ 4100 ≤ M) (l : List Nat) (hl : l.length ≤ 2000) : callN txt.prog M (k + 3) 37 [.str (SX.S l)] S = .ok (ovalD (rdVal l)) S := by
  have q := eq_S S l [45]
  unfold rdVal
  by_cases h : l = [45]
  · rw [decide_eq_true h] at q
    rw [if_pos h]
    refine call_ret (d := f37) rfl rfl ⟨[some (.str (SX.S l)), none, none, none, none], ?_⟩
    generalize SX.S l = z at *
    simp [cfg_call, cfg_N, ev_var, ev_non, ev_bl, ev_int, ev_str, ev_glb, ev_bin, ev_neg, ev_no, ev_cmp, ev_chain, ev_isN, ev_and, ev_or, ev_ife, ev_call, ev_bi, ev_isi, ev_me, ev_repl, ev_lm, ev_idx, ev_slc, ev_rev, ev_tup, ev_lstF, ev_lstT, ev_dct, es_nil, es_cons, eo_none, eo_some, ss_nil, ss_cons, s_asg, s_asgc, s_par2, s_par3, s_aug, s_sset, s_xpr, s_ifs, s_ret, s_raise, s_try, it_of, it_rng1, eb_none, eb_some, b_ok, b_exc, t_ok, t_exc, r_some, RS.next, bindTg, List.getElem?_cons_zero, List.getElem?_cons_succ, List.set_cons_zero, List.set_cons_succ, f37, startE, lit_m, q, valD, ovalD, sizeLine_eq]
  · rw [decide_eq_false h] at q
    rw [if_neg h]
    have g0 : evS (cfgN txt.prog M (k + 2)) (.ifs (.cmp .eq (.var 0) (.str "-")) (.cons (.ret (.lst false (.cons .non .nil))) .nil) .nil) [some (.str (SX.S l)), none, none, none, none] S = .ok .nx [some (.str (SX.S l)), none, none, none, none] S := by
      generalize SX.S l = z at *
      simp [cfg_call, cfg_N, ev_var, ev_non, ev_bl, ev_int, ev_str, ev_glb, ev_bin, ev_neg, ev_no, ev_cmp, ev_chain, ev_isN, ev_and, ev_or, ev_ife, ev_call, ev_bi, ev_isi, ev_me, ev_repl, ev_lm, ev_idx, ev_slc, ev_rev, ev_tup, ev_lstF, ev_lstT, ev_dct, es_nil, es_cons, eo_none, eo_some, ss_nil, ss_cons, s_asg, s_asgc, s_par2, s_par3, s_aug, s_sset, s_xpr, s_ifs, s_ret, s_raise, s_try, it_of, it_rng1, eb_none, eb_some, b_ok, b_exc, t_ok, t_exc, r_some, RS.next, bindTg, List.getElem?_cons_zero, List.getElem?_cons_succ, List.set_cons_zero, List.set_cons_succ, lit_m, q, ss_nil]
    cases hp : TL.par [47] [] l with
    | none =>
      have pv := part_ev_none S (by decide) (by omega) hp
      have g1 : evS (cfgN txt.prog M (k + 2)) (.asg (.tup [2, 3, 4]) (.me .partition (.var 0) (.cons (.str "/") .nil))) [some (.str (SX.S l)), none, none, none, none] S = .ok .nx [some (.str (SX.S l)), none, some (.str (SX.S l)), some (.str (SX.S [])), some (.str (SX.S []))] S := by
        generalize SX.S l = z at *
        simp [cfg_call, cfg_N, ev_var, ev_non, ev_bl, ev_int, ev_str, ev_glb, ev_bin, ev_neg, ev_no, ev_cmp, ev_chain, ev_isN, ev_and, ev_or, ev_ife, ev_call, ev_bi, ev_isi, ev_me, ev_repl, ev_lm, ev_idx, ev_slc, ev_rev, ev_tup, ev_lstF, ev_lstT, ev_dct, es_nil, es_cons, eo_none, eo_some, ss_nil, ss_cons, s_asg, s_asgc, s_par2, s_par3, s_aug, s_sset, s_xpr, s_ifs, s_ret, s_raise, s_try, it_of, it_rng1, eb_none, eb_some, b_ok, b_exc, t_ok, t_exc, r_some, RS.next, bindTg, List.getElem?_cons_zero, List.getElem?_cons_succ, List.set_cons_zero, List.set_cons_succ, lit_sl, isStrD, pv]
      have rd := law_number_ev (M := M) (k := k + 1) (S := S) l (by omega)
      have qe : evCmp .ne S (.str (SX.S [])) (.str (SX.S [])) = some false := ne_S S [] []
      dsimp only
      rw [rdNumP_of (by omega)]
      have hin := in_opt2 S (rdNum l) (some 1)
      have hin : evCmp .isin S .non (.tup [optD (rdNum l), .int 1]) = some ((rdNum l).isNone || false) := hin
      rw [Bool.or_false] at hin
      refine call_ret (d := f37) rfl rfl ⟨[some (.str (SX.S l)), some (.tup [optD (rdNum l), .int 1]), some (.str (SX.S l)), some (.str (SX.S [])), some (.str (SX.S []))], ?_⟩
      unfold f37
      refine (ss_go g0).trans ((ss_go g1).trans ((ss_go (env1 := [some (.str (SX.S l)), some (.tup [optD (rdNum l), .int 1]), some (.str (SX.S l)), some (.str (SX.S [])), some (.str (SX.S []))]) (S1 := S) (by generalize SX.S l = z at *; generalize optD (rdNum l) = w at *; simp [cfg_call, cfg_N, ev_var, ev_non, ev_bl, ev_int, ev_str, ev_glb, ev_bin, ev_neg, ev_no, ev_cmp, ev_chain, ev_isN, ev_and, ev_or, ev_ife, ev_call, ev_bi, ev_isi, ev_me, ev_repl, ev_lm, ev_idx, ev_slc, ev_rev, ev_tup, ev_lstF, ev_lstT, ev_dct, es_nil, es_cons, eo_none, eo_some, ss_nil, ss_cons, s_asg, s_asgc, s_par2, s_par3, s_aug, s_sset, s_xpr, s_ifs, s_ret, s_raise, s_try, it_of, it_rng1, eb_none, eb_some, b_ok, b_exc, t_ok, t_exc, r_some, RS.next, bindTg, List.getElem?_cons_zero, List.getElem?_cons_succ, List.set_cons_zero, List.set_cons_succ, rd, lit_e, qe, sizeLine_eq])).trans ?_))
      cases hr : rdNum l with
      | none =>
        rw [hr] at hin
        generalize SX.S l = z at *
        have hin : evCmp .isin S .non (.tup [optD none, .int 1]) = some true := hin
        simp [cfg_call, cfg_N, ev_var, ev_non, ev_bl, ev_int, ev_str, ev_glb, ev_bin, ev_neg, ev_no, ev_cmp, ev_chain, ev_isN, ev_and, ev_or, ev_ife, ev_call, ev_bi, ev_isi, ev_me, ev_repl, ev_lm, ev_idx, ev_slc, ev_rev, ev_tup, ev_lstF, ev_lstT, ev_dct, es_nil, es_cons, eo_none, eo_some, ss_nil, ss_cons, s_asg, s_asgc, s_par2, s_par3, s_aug, s_sset, s_xpr, s_ifs, s_ret, s_raise, s_try, it_of, it_rng1, eb_none, eb_some, b_ok, b_exc, t_ok, t_exc, r_some, RS.next, bindTg, List.getElem?_cons_zero, List.getElem?_cons_succ, List.set_cons_zero, List.set_cons_succ, hin, ovalD, ss_nil]
      | some n =>
        rw [hr] at hin
        have lo := law_lowest_ev (M := M) (k := k + 1) (S := S) hM n 1 (by decide) (Nat.lt_of_lt_of_le (show 1 < 10 ^ 1 by decide) (Nat.pow_le_pow_right (by decide) (by decide)))
        have ne := low_ne S (n := n) (d := 1) (by decide)
        simp only [Nat.gcd_one_right] at lo ne
        have i0 : evIdx S (.tup [.int n, .int 1]) (.int 0) = some (.int n) := rfl
        have i1 : evIdx S (.tup [.int n, .int 1]) (.int 1) = some (.int 1) := rfl
        have e1 := eveq S 1 0
        have e2 := eveq S 1 1
        show _ = RS.ok (.rt (.lst [.tup [.int n, .int (1 : Nat)]])) [_, some (.tup [.int n, .int 1]), _, _, _] S
        have hin : evCmp .isin S .non (.tup [.int n, .int 1]) = some false := hin
        show evSs _ _ [_, some (.tup [.int n, .int 1]), _, _, _] S = _
        generalize SX.S l = z at *
        have lo : callN txt.prog M (k + 2) 27 [.int n, .int 1] S = .ok (.tup [.int ((n : Int) / ((1 : Nat) : Int)), .int (((1 : Nat) : Int) / ((1 : Nat) : Int))]) S := lo
        have ne : evCmp .ne S (.tup [.int ((n : Int) / ((1 : Nat) : Int)), .int (((1 : Nat) : Int) / ((1 : Nat) : Int))]) (.tup [.int n, .int 1]) = some false := ne
        generalize (D.tup [.int ((n : Int) / ((1 : Nat) : Int)), .int (((1 : Nat) : Int) / ((1 : Nat) : Int))]) = w at *
        simp [cfg_call, cfg_N, ev_var, ev_non, ev_bl, ev_int, ev_str, ev_glb, ev_bin, ev_neg, ev_no, ev_cmp, ev_chain, ev_isN, ev_and, ev_or, ev_ife, ev_call, ev_bi, ev_isi, ev_me, ev_repl, ev_lm, ev_idx, ev_slc, ev_rev, ev_tup, ev_lstF, ev_lstT, ev_dct, es_nil, es_cons, eo_none, eo_some, ss_nil, ss_cons, s_asg, s_asgc, s_par2, s_par3, s_aug, s_sset, s_xpr, s_ifs, s_ret, s_raise, s_try, it_of, it_rng1, eb_none, eb_some, b_ok, b_exc, t_ok, t_exc, r_some, RS.next, bindTg, List.getElem?_cons_zero, List.getElem?_cons_succ, List.set_cons_zero, List.set_cons_succ, hin, lit_e, qe, i0, i1, e1, e2, lo, ne, ss_nil, sizeLine_eq]
    | some ab =>
      obtain ⟨a, b⟩ := ab
      have hab := par_len hp
      simp only [List.length_nil, Nat.add_zero] at hab
      have pv := part_ev_some S (by decide) (by omega) hp
      have g1 : evS (cfgN txt.prog M (k + 2)) (.asg (.tup [2, 3, 4]) (.me .partition (.var 0) (.cons (.str "/") .nil))) [some (.str (SX.S l)), none, none, none, none] S = .ok .nx [some (.str (SX.S l)), none, some (.str (SX.S a)), some (.str (SX.S [47])), some (.str (SX.S b))] S := by
        generalize SX.S l = z at *
        simp [cfg_call, cfg_N, ev_var, ev_non, ev_bl, ev_int, ev_str, ev_glb, ev_bin, ev_neg, ev_no, ev_cmp, ev_chain, ev_isN, ev_and, ev_or, ev_ife, ev_call, ev_bi, ev_isi, ev_me, ev_repl, ev_lm, ev_idx, ev_slc, ev_rev, ev_tup, ev_lstF, ev_lstT, ev_dct, es_nil, es_cons, eo_none, eo_some, ss_nil, ss_cons, s_asg, s_asgc, s_par2, s_par3, s_aug, s_sset, s_xpr, s_ifs, s_ret, s_raise, s_try, it_of, it_rng1, eb_none, eb_some, b_ok, b_exc, t_ok, t_exc, r_some, RS.next, bindTg, List.getElem?_cons_zero, List.getElem?_cons_succ, List.set_cons_zero, List.set_cons_succ, lit_sl, isStrD, pv]
      have ra := law_number_ev (M := M) (k := k + 1) (S := S) a (by omega)
      have rb := law_number_ev (M := M) (k := k + 1) (S := S) b (by omega)
      have qe : evCmp .ne S (.str (SX.S [47])) (.str (SX.S [])) = some true := ne_S S [47] []
      have hin := in_opt2 S (rdNum a) (rdNum b)
      dsimp only
      rw [rdNumP_of (show a.length ≤ 4000 by omega), rdNumP_of (show b.length ≤ 4000 by omega)]
      refine call_ret (d := f37) rfl rfl ⟨[some (.str (SX.S l)), some (.tup [optD (rdNum a), optD (rdNum b)]), some (.str (SX.S a)), some (.str (SX.S [47])), some (.str (SX.S b))], ?_⟩
      unfold f37
      refine (ss_go g0).trans ((ss_go g1).trans ((ss_go (env1 := [some (.str (SX.S l)), some (.tup [optD (rdNum a), optD (rdNum b)]), some (.str (SX.S a)), some (.str (SX.S [47])), some (.str (SX.S b))]) (S1 := S) (by generalize SX.S l = z at *; generalize optD (rdNum a) = w at *; generalize optD (rdNum b) = w2 at *; simp [cfg_call, cfg_N, ev_var, ev_non, ev_bl, ev_int, ev_str, ev_glb, ev_bin, ev_neg, ev_no, ev_cmp, ev_chain, ev_isN, ev_and, ev_or, ev_ife, ev_call, ev_bi, ev_isi, ev_me, ev_repl, ev_lm, ev_idx, ev_slc, ev_rev, ev_tup, ev_lstF, ev_lstT, ev_dct, es_nil, es_cons, eo_none, eo_some, ss_nil, ss_cons, s_asg, s_asgc, s_par2, s_par3, s_aug, s_sset, s_xpr, s_ifs, s_ret, s_raise, s_try, it_of, it_rng1, eb_none, eb_some, b_ok, b_exc, t_ok, t_exc, r_some, RS.next, bindTg, List.getElem?_cons_zero, List.getElem?_cons_succ, List.set_cons_zero, List.set_cons_succ, ra, rb, lit_e, qe, sizeLine_eq])).trans ?_))
      generalize SX.S l = z at *
      cases hra : rdNum a with
      | none =>
        rw [hra] at hin
        have hin : evCmp .isin S .non (.tup [optD none, optD (rdNum b)]) = some true := hin
        dsimp only
        generalize optD (rdNum b) = w2 at *
        simp [cfg_call, cfg_N, ev_var, ev_non, ev_bl, ev_int, ev_str, ev_glb, ev_bin, ev_neg, ev_no, ev_cmp, ev_chain, ev_isN, ev_and, ev_or, ev_ife, ev_call, ev_bi, ev_isi, ev_me, ev_repl, ev_lm, ev_idx, ev_slc, ev_rev, ev_tup, ev_lstF, ev_lstT, ev_dct, es_nil, es_cons, eo_none, eo_some, ss_nil, ss_cons, s_asg, s_asgc, s_par2, s_par3, s_aug, s_sset, s_xpr, s_ifs, s_ret, s_raise, s_try, it_of, it_rng1, eb_none, eb_some, b_ok, b_exc, t_ok, t_exc, r_some, RS.next, bindTg, List.getElem?_cons_zero, List.getElem?_cons_succ, List.set_cons_zero, List.set_cons_succ, hin, ovalD, ss_nil]
      | some n =>
        cases hrb : rdNum b with
        | none =>
          rw [hra, hrb] at hin
          have hin : evCmp .isin S .non (.tup [optD (some n), optD none]) = some true := hin
          simp [cfg_call, cfg_N, ev_var, ev_non, ev_bl, ev_int, ev_str, ev_glb, ev_bin, ev_neg, ev_no, ev_cmp, ev_chain, ev_isN, ev_and, ev_or, ev_ife, ev_call, ev_bi, ev_isi, ev_me, ev_repl, ev_lm, ev_idx, ev_slc, ev_rev, ev_tup, ev_lstF, ev_lstT, ev_dct, es_nil, es_cons, eo_none, eo_some, ss_nil, ss_cons, s_asg, s_asgc, s_par2, s_par3, s_aug, s_sset, s_xpr, s_ifs, s_ret, s_raise, s_try, it_of, it_rng1, eb_none, eb_some, b_ok, b_exc, t_ok, t_exc, r_some, RS.next, bindTg, List.getElem?_cons_zero, List.getElem?_cons_succ, List.set_cons_zero, List.set_cons_succ, hin, ovalD, ss_nil]
        | some d =>
          rw [hra, hrb] at hin
          have hin : evCmp .isin S .non (.tup [.int n, .int d]) = some false := hin
          show evSs _ _ [_, some (.tup [.int n, .int d]), _, _, _] S = RS.ok _ [_, some (.tup [.int n, .int d]), _, _, _] S
          dsimp only
          have hd : d < 10 ^ 2000 := Nat.lt_of_lt_of_le (rdNum_lt hrb) (Nat.pow_le_pow_right (by decide) (by omega))
          have i0 : evIdx S (.tup [.int n, .int d]) (.int 0) = some (.int n) := rfl
          have i1 : evIdx S (.tup [.int n, .int d]) (.int 1) = some (.int d) := rfl
          have e1 := eveq S d 0
          have e2 := eveq S d 1
          by_cases h0 : d = 0
          · rw [if_neg (by omega)]
            rw [decide_eq_true (by omega)] at e1
            clear hd
            simp only [cfg_call, cfg_N, ev_var, ev_non, ev_bl, ev_int, ev_str, ev_glb, ev_bin, ev_neg, ev_no, ev_cmp, ev_chain, ev_isN, ev_and, ev_or, ev_ife, ev_call, ev_bi, ev_isi, ev_me, ev_repl, ev_lm, ev_idx, ev_slc, ev_rev, ev_tup, ev_lstF, ev_lstT, ev_dct, es_nil, es_cons, eo_none, eo_some, ss_nil, ss_cons, s_asg, s_asgc, s_par2, s_par3, s_aug, s_sset, s_xpr, s_ifs, s_ret, s_raise, s_try, it_of, it_rng1, eb_none, eb_some, b_ok, b_exc, t_ok, t_exc, r_some, RS.next, bindTg, List.getElem?_cons_zero, List.getElem?_cons_succ, List.set_cons_zero, List.set_cons_succ, ↓reduceIte, hin, i0, i1, e1, ss_nil, ovalD]
          · rw [decide_eq_false (by omega)] at e1
            have lo := law_lowest_ev (M := M) (k := k + 1) (S := S) hM n d (by omega) hd
            have ne := low_ne S (n := n) (d := d) (by omega)
            clear hd
            generalize (D.tup [.int ((n : Int) / (Nat.gcd n d : Nat)), .int ((d : Int) / (Nat.gcd n d : Nat))]) = w at *
            by_cases h1 : d = 1
            · rw [if_neg (by omega)]
              rw [decide_eq_true (by omega)] at e2
              simp [cfg_call, cfg_N, ev_var, ev_non, ev_bl, ev_int, ev_str, ev_glb, ev_bin, ev_neg, ev_no, ev_cmp, ev_chain, ev_isN, ev_and, ev_or, ev_ife, ev_call, ev_bi, ev_isi, ev_me, ev_repl, ev_lm, ev_idx, ev_slc, ev_rev, ev_tup, ev_lstF, ev_lstT, ev_dct, es_nil, es_cons, eo_none, eo_some, ss_nil, ss_cons, s_asg, s_asgc, s_par2, s_par3, s_aug, s_sset, s_xpr, s_ifs, s_ret, s_raise, s_try, it_of, it_rng1, eb_none, eb_some, b_ok, b_exc, t_ok, t_exc, r_some, RS.next, bindTg, List.getElem?_cons_zero, List.getElem?_cons_succ, List.set_cons_zero, List.set_cons_succ, hin, lit_e, qe, i0, i1, e1, e2, ss_nil, ovalD]
            · rw [decide_eq_false (by omega)] at e2
              by_cases hg : Nat.gcd n d = 1
              · rw [decide_eq_true hg] at ne
                rw [if_pos ⟨by omega, hg⟩]
                simp [cfg_call, cfg_N, ev_var, ev_non, ev_bl, ev_int, ev_str, ev_glb, ev_bin, ev_neg, ev_no, ev_cmp, ev_chain, ev_isN, ev_and, ev_or, ev_ife, ev_call, ev_bi, ev_isi, ev_me, ev_repl, ev_lm, ev_idx, ev_slc, ev_rev, ev_tup, ev_lstF, ev_lstT, ev_dct, es_nil, es_cons, eo_none, eo_some, ss_nil, ss_cons, s_asg, s_asgc, s_par2, s_par3, s_aug, s_sset, s_xpr, s_ifs, s_ret, s_raise, s_try, it_of, it_rng1, eb_none, eb_some, b_ok, b_exc, t_ok, t_exc, r_some, RS.next, bindTg, List.getElem?_cons_zero, List.getElem?_cons_succ, List.set_cons_zero, List.set_cons_succ, hin, lit_e, qe, i0, i1, e1, e2, lo, ne, ss_nil, ovalD, valD, sizeLine_eq]
              · rw [decide_eq_false hg] at ne
                rw [if_neg (by omega)]
                simp [cfg_call, cfg_N, ev_var, ev_non, ev_bl, ev_int, ev_str, ev_glb, ev_bin, ev_neg, ev_no, ev_cmp, ev_chain, ev_isN, ev_and, ev_or, ev_ife, ev_call, ev_bi, ev_isi, ev_me, ev_repl, ev_lm, ev_idx, ev_slc, ev_rev, ev_tup, ev_lstF, ev_lstT, ev_dct, es_nil, es_cons, eo_none, eo_some, ss_nil, ss_cons, s_asg, s_asgc, s_par2, s_par3, s_aug, s_sset, s_xpr, s_ifs, s_ret, s_raise, s_try, it_of, it_rng1, eb_none, eb_some, b_ok, b_exc, t_ok, t_exc, r_some, RS.next, bindTg, List.getElem?_cons_zero, List.getElem?_cons_succ, List.set_cons_zero, List.set_cons_succ, hin, lit_e, qe, i0, i1, e1, e2, lo, ne, ss_nil, ovalD]
end
end K54

set_option linter.all false
set_option maxRecDepth 100000
set_option maxHeartbeats 1000000
set_option exponentiation.threshold 20000
namespace K54
open PySem MP
/-! ### reading: papers, parts, answers -/
def wMost : List Nat := [109, 111, 115, 116]
def wLeast : List Nat := [108, 101, 97, 115, 116]
def wGMost : List Nat := [103, 97, 105, 110, 109, 111, 115, 116]
def wGLeast : List Nat := [103, 97, 105, 110, 108, 101, 97, 115, 116]
def wordF (x : List Nat) : Option Str := if x = wMost then some "most" else if x = wLeast then some "least" else if x = wGMost then some "gain most" else if x = wGLeast then some "gain least" else none
theorem spl_mem_in {b : List Nat} {c : Nat} : ∀ {l : List Nat} {k : Nat} {acc x : List Nat}, x ∈ TL.spl b k acc l → c ∈ x → c ∈ acc ∨ c ∈ l
  | [], k, acc, x, h, hc => by
    rw [TL.spl_nil] at h
    rw [List.mem_singleton.mp h] at hc; exact .inl hc
  | d :: r, 0, acc, x, h, hc => by
    unfold TL.spl at h
    split at h
    · rcases List.mem_cons.mp h with rfl | h
      · exact .inl hc
      · rcases spl_mem_in h hc with h | h
        · cases h
        · exact .inr (List.mem_cons_of_mem _ h)
    · rcases spl_mem_in h hc with h | h
      · rcases List.mem_append.mp h with h | h
        · exact .inl h
        · rw [List.mem_singleton.mp h]; exact .inr List.mem_cons_self
      · exact .inr (List.mem_cons_of_mem _ h)
  | d :: r, k + 1, acc, x, h, hc => by
    unfold TL.spl at h
    rcases spl_mem_in h hc with h | h
    · exact .inl h
    · exact .inr (List.mem_cons_of_mem _ h)
theorem spl_ne (b : List Nat) : ∀ (l : List Nat) (k : Nat) (acc : List Nat), TL.spl b k acc l ≠ []
  | [], k, acc => by rw [TL.spl_nil]; simp
  | d :: r, 0, acc => by
    unfold TL.spl
    split
    · simp
    · exact spl_ne b r 0 _
  | d :: r, k + 1, acc => by
    unfold TL.spl
    exact spl_ne b r k acc
section
variable {M k : Nat} {S : Sto}
def wordsE : E := .comp false (.var 4) (.nm 4) (.keys 3) (.some (.cmp .eq (.idx (.glb 3) (.var 4)) (.idx (.var 1) (.int 0)))) [4]
theorem words_ev (x : List Nat) (x0 r x2 x3 x4 x5 : Option D) (rd : D) (hr : r = some rd) (hx : evIdx S rd (.int 0) = some (.str (SX.S x))) : evE (cfgN txt.prog M k) wordsE [x0, r, x2, x3, x4, x5] S = .ok (.lst ((wordF x).toList.map .str)) S := by
  subst hr
  have it : evIt (cfgN txt.prog M k) (.keys 3) [x0, some rd, x2, x3, x4, x5] S = .ok ⟨[.str "most", .str "least", .str "gain most", .str "gain least"], none⟩ S := by rw [evIt]; rfl
  have tr : ∀ (w : Str) (t : List Nat), papers.lookup w = some (SX.S t) → cTurn (cfgN txt.prog M k) (.var 4) (.nm 4) (.some (.cmp .eq (.idx (.glb 3) (.var 4)) (.idx (.var 1) (.int 0)))) (wipeE [x0, some rd, x2, x3, x4, x5] [4]) (.str w) S = .ok (if x = t then some (.str w) else none) S := by
    intro w t hw
    have iw : evIdx S (.dct papers) (.str w) = some (.str (SX.S t)) := by
      show (papers.lookup w).map D.str = _
      rw [hw]; rfl
    have q := eq_S S t x
    unfold cTurn
    by_cases hq : x = t
    · rw [decide_eq_true hq.symm] at q
      rw [if_pos hq]
      simp [cfg_call, cfg_N, ev_var, ev_non, ev_bl, ev_int, ev_str, ev_glb, ev_bin, ev_neg, ev_no, ev_cmp, ev_chain, ev_isN, ev_and, ev_or, ev_ife, ev_call, ev_bi, ev_isi, ev_me, ev_repl, ev_lm, ev_idx, ev_slc, ev_rev, ev_tup, ev_lstF, ev_lstT, ev_dct, es_nil, es_cons, eo_none, eo_some, ss_nil, ss_cons, s_asg, s_asgc, s_par2, s_par3, s_aug, s_sset, s_xpr, s_ifs, s_ret, s_raise, s_try, it_of, it_rng1, eb_none, eb_some, b_ok, b_exc, t_ok, t_exc, r_some, RS.next, bindTg, List.getElem?_cons_zero, List.getElem?_cons_succ, List.set_cons_zero, List.set_cons_succ, wipeE, glb3, iw, hx, q]
    · rw [decide_eq_false (fun z => hq z.symm)] at q
      rw [if_neg hq]
      simp [cfg_call, cfg_N, ev_var, ev_non, ev_bl, ev_int, ev_str, ev_glb, ev_bin, ev_neg, ev_no, ev_cmp, ev_chain, ev_isN, ev_and, ev_or, ev_ife, ev_call, ev_bi, ev_isi, ev_me, ev_repl, ev_lm, ev_idx, ev_slc, ev_rev, ev_tup, ev_lstF, ev_lstT, ev_dct, es_nil, es_cons, eo_none, eo_some, ss_nil, ss_cons, s_asg, s_asgc, s_par2, s_par3, s_aug, s_sset, s_xpr, s_ifs, s_ret, s_raise, s_try, it_of, it_rng1, eb_none, eb_some, b_ok, b_exc, t_ok, t_exc, r_some, RS.next, bindTg, List.getElem?_cons_zero, List.getElem?_cons_succ, List.set_cons_zero, List.set_cons_succ, wipeE, glb3, iw, hx, q]
  have t1 := tr "most" wMost (by decide +kernel)
  have t2 := tr "least" wLeast (by decide +kernel)
  have t3 := tr "gain most" wGMost (by decide +kernel)
  have t4 := tr "gain least" wGLeast (by decide +kernel)
  have hst : (⟨[.str "most", .str "least", .str "gain most", .str "gain least"], none⟩ : Walkd).still S = true := rfl
  unfold wordsE
  refine (ev_comp it (le_big (by show 4 ≤ 1000000; decide)) hst (by rw [compL, if_pos hst, t1, b_ok, compL, if_pos hst, t2, b_ok, compL, if_pos hst, t3, b_ok, compL, if_pos hst, t4, b_ok, compL, b_ok, b_ok, b_ok, b_ok])).trans ?_
  unfold wordF
  have n1 : ¬ wLeast = wMost := by decide
  have n2 : ¬ wGMost = wMost := by decide
  have n3 : ¬ wGLeast = wMost := by decide
  have n4 : ¬ wGMost = wLeast := by decide
  have n5 : ¬ wGLeast = wLeast := by decide
  have n6 : ¬ wGLeast = wGMost := by decide
  by_cases h1 : x = wMost
  · subst h1
    simp [show ¬ wMost = wLeast from by decide, show ¬ wMost = wGMost from by decide, show ¬ wMost = wGLeast from by decide]
  · by_cases h2 : x = wLeast
    · subst h2
      simp [n1, show ¬ wLeast = wGMost from by decide, show ¬ wLeast = wGLeast from by decide]
    · by_cases h3 : x = wGMost
      · subst h3
        simp [n2, n4, show ¬ wGMost = wGLeast from by decide]
      · by_cases h4 : x = wGLeast
        · subst h4
          simp [n3, n5, n6]
        · simp [h1, h2, h3, h4]
def rdVals (v : List Nat) : Option (List (Option (Nat × Nat))) := (TL.spl [44] 0 [] v).mapM rdVal
def rdPap (x : List Nat) : Option (Option Pap) :=
  if x = [45] then some none else
  match TL.spl [58] 0 [] x with
  | [w, v, p, r] => match wordF w, rdVals v, rdNumsP p, rdNumsP r with
    | some w, some vs, some ps, some rs => some (some ⟨w, vs, ps, rs⟩)
    | _, _, _, _ => none
  | _ => none
theorem par_free {x : List Nat} (h : 47 ∉ x) : TL.par [47] [] x = none := TL.par_none1 h
theorem vals_isR (hM : 10 ^ 4100 ≤ M) (v : List Nat) (hl : v.length ≤ 100000) (h2 : v.length ≤ 2000 ∨ 47 ∉ v) {env : MP.Env} {src : E} (hs : evE (cfgN txt.prog M (k + 3)) src env S = .ok (.str (SX.S v)) S) (hi : 5 < (wipeE env [5]).length) :
    IsR 0 (evE (cfgN txt.prog M (k + 3)) (.bi .tuple (.cons (.comp false (.call 18 (.cons (.var 5) .nil)) (.nm 5) (.of (.me .split src (.cons (.str ",") .nil))) .none [5]) .nil)) env S) ((rdVals v).map fun vs => .tup (vs.map valD)) S := by
  have hc := comp_op (j := 0) (c := cfgN txt.prog M (k + 3)) (env := env) (S := S) (src := .me .split src (.cons (.str ",") .nil)) (elt := .call 18 (.cons (.var 5) .nil)) (tg := .nm 5) (own := [5]) (e := fun x => .str (SX.S x)) (g := fun x => (rdVal x).map valD)
    (l := TL.spl [44] 0 [] v) (comma_ev v hl hs) rfl (le_big (spl_le hl)) (fun x hx => ⟨_, rfl, by
      have hlx := spl_mem hx
      have := read_value_ev (M := M) (k := k) (S := S) hM x (by omega) (by
        rcases h2 with h2 | h2
        · exact .inl (by omega)
        · exact .inr (par_free fun hm => by rcases spl_mem_in hx hm with h | h; cases h; exact h2 h))
      have e : evE (cfgN txt.prog M (k + 3)) (.call 18 (.cons (.var 5) .nil)) ((wipeE env [5]).set 5 (some (.str (SX.S x)))) S = callN txt.prog M (k + 3) 18 [.str (SX.S x)] S := by
        have hv : evE (cfgN txt.prog M (k + 3)) (.var 5) ((wipeE env [5]).set 5 (some (.str (SX.S x)))) S = .ok (.str (SX.S x)) S := by
          rw [ev_var, List.getElem?_set_self hi]
        rw [ev_call, es_cons, hv, b_ok, es_nil, b_ok, b_ok]; rfl
      rw [e]; exact this⟩)
  rw [mapM_map] at hc
  have := tuple_isR hc
  rw [Option.map_map] at this
  exact this
theorem colon_ev (x : List Nat) (hx : x.length ≤ 100000) {c : Cfg} {env : MP.Env} {e : E} (he : evE c e env S = .ok (.str (SX.S x)) S) : evE c (.me .split e (.cons (.str ":") .nil)) env S = .ok (.lst ((TL.spl [58] 0 [] x).map fun x => .str (SX.S x))) S := by
  have s := split_ev S x [58] (by decide) (by decide) hx
  simp [cfg_call, cfg_N, ev_var, ev_non, ev_bl, ev_int, ev_str, ev_glb, ev_bin, ev_neg, ev_no, ev_cmp, ev_chain, ev_isN, ev_and, ev_or, ev_ife, ev_call, ev_bi, ev_isi, ev_me, ev_repl, ev_lm, ev_idx, ev_slc, ev_rev, ev_tup, ev_lstF, ev_lstT, ev_dct, es_nil, es_cons, eo_none, eo_some, ss_nil, ss_cons, s_asg, s_asgc, s_par2, s_par3, s_aug, s_sset, s_xpr, s_ifs, s_ret, s_raise, s_try, it_of, it_rng1, eb_none, eb_some, b_ok, b_exc, t_ok, t_exc, r_some, RS.next, bindTg, List.getElem?_cons_zero, List.getElem?_cons_succ, List.set_cons_zero, List.set_cons_succ, he, isStrD, lit_co, s]
theorem isR_of_eq {α : Type} {j : Nat} {r r2 : R α} {o : Option α} (e : r = r2) (h : IsR j r2 o S) : IsR j r o S := e ▸ h
theorem read_paper_ev (hM : 10 ^ 4100 ≤ M) (x : List Nat) (hl : x.length ≤ 100000) (h2 : x.length ≤ 2000 ∨ 47 ∉ x) : IsR 0 (callN txt.prog M (k + 4) 19 [.str (SX.S x)] S) ((rdPap x).map papD) S := by
  refine call_isR (d := f19) rfl rfl ?_
  have q := eq_S S x [45]
  unfold rdPap
  by_cases h : x = [45]
  · rw [decide_eq_true h] at q
    rw [if_pos h]
    refine ⟨[some (.str (SX.S x)), none, none, none, none, none], ?_⟩
    generalize SX.S x = z at *
    simp [cfg_call, cfg_N, ev_var, ev_non, ev_bl, ev_int, ev_str, ev_glb, ev_bin, ev_neg, ev_no, ev_cmp, ev_chain, ev_isN, ev_and, ev_or, ev_ife, ev_call, ev_bi, ev_isi, ev_me, ev_repl, ev_lm, ev_idx, ev_slc, ev_rev, ev_tup, ev_lstF, ev_lstT, ev_dct, es_nil, es_cons, eo_none, eo_some, ss_nil, ss_cons, s_asg, s_asgc, s_par2, s_par3, s_aug, s_sset, s_xpr, s_ifs, s_ret, s_raise, s_try, it_of, it_rng1, eb_none, eb_some, b_ok, b_exc, t_ok, t_exc, r_some, RS.next, bindTg, List.getElem?_cons_zero, List.getElem?_cons_succ, List.set_cons_zero, List.set_cons_succ, f19, startE, lit_m, q, papD]
  · rw [decide_eq_false h] at q
    rw [if_neg h]
    have g0 : evS (cfgN txt.prog M (k + 3)) (.ifs (.cmp .eq (.var 0) (.str "-")) (.cons (.ret .non) .nil) .nil) [some (.str (SX.S x)), none, none, none, none, none] S = .ok .nx [some (.str (SX.S x)), none, none, none, none, none] S := by
      generalize SX.S x = z at *
      simp [cfg_call, cfg_N, ev_var, ev_non, ev_bl, ev_int, ev_str, ev_glb, ev_bin, ev_neg, ev_no, ev_cmp, ev_chain, ev_isN, ev_and, ev_or, ev_ife, ev_call, ev_bi, ev_isi, ev_me, ev_repl, ev_lm, ev_idx, ev_slc, ev_rev, ev_tup, ev_lstF, ev_lstT, ev_dct, es_nil, es_cons, eo_none, eo_some, ss_nil, ss_cons, s_asg, s_asgc, s_par2, s_par3, s_aug, s_sset, s_xpr, s_ifs, s_ret, s_raise, s_try, it_of, it_rng1, eb_none, eb_some, b_ok, b_exc, t_ok, t_exc, r_some, RS.next, bindTg, List.getElem?_cons_zero, List.getElem?_cons_succ, List.set_cons_zero, List.set_cons_succ, lit_m, q, ss_nil]
    have sp := colon_ev (S := S) x hl (c := cfgN txt.prog M (k + 3)) (env := [some (.str (SX.S x)), none, none, none, none, none]) (e := .var 0) (by simp [cfg_call, cfg_N, ev_var, ev_non, ev_bl, ev_int, ev_str, ev_glb, ev_bin, ev_neg, ev_no, ev_cmp, ev_chain, ev_isN, ev_and, ev_or, ev_ife, ev_call, ev_bi, ev_isi, ev_me, ev_repl, ev_lm, ev_idx, ev_slc, ev_rev, ev_tup, ev_lstF, ev_lstT, ev_dct, es_nil, es_cons, eo_none, eo_some, ss_nil, ss_cons, s_asg, s_asgc, s_par2, s_par3, s_aug, s_sset, s_xpr, s_ifs, s_ret, s_raise, s_try, it_of, it_rng1, eb_none, eb_some, b_ok, b_exc, t_ok, t_exc, r_some, RS.next, bindTg, List.getElem?_cons_zero, List.getElem?_cons_succ, List.set_cons_zero, List.set_cons_succ, ss_nil])
    have hne := spl_ne [58] x 0 []
    have hmem : ∀ y ∈ TL.spl [58] 0 [] x, y.length ≤ x.length ∧ (47 ∉ x → 47 ∉ y) := fun y hy => ⟨spl_mem hy, fun h2 hm => by rcases spl_mem_in hy hm with h | h; cases h; exact h2 h⟩
    generalize TL.spl [58] 0 [] x = rows at *
    generalize SX.S x = z at *
    have g1 : evS (cfgN txt.prog M (k + 3)) (.asg (.nm 1) (.me .split (.var 0) (.cons (.str ":") .nil))) [some (.str z), none, none, none, none, none] S = .ok .nx [some (.str z), some (.lst (rows.map fun x => .str (SX.S x))), none, none, none, none] S := by
      rw [s_asg, sp]; rfl
    obtain ⟨w, rest, rfl⟩ := List.exists_cons_of_ne_nil hne
    have iw : evIdx S (.lst ((w :: rest).map fun x => .str (SX.S x))) (.int 0) = some (.str (SX.S w)) := L2.atI_nat (j := 0) rfl
    have hw := words_ev (M := M) (k := k + 3) w (some (.str z)) (some (.lst ((w :: rest).map fun x => .str (SX.S x)))) none none none none _ rfl iw
    have g2 : evS (cfgN txt.prog M (k + 3)) (.asgc 2 wordsE) [some (.str z), some (.lst ((w :: rest).map fun x => .str (SX.S x))), none, none, none, none] S = .ok .nx [some (.str z), some (.lst ((w :: rest).map fun x => .str (SX.S x))), some (.lst ((wordF w).toList.map .str)), none, none, none] S := by
      rw [s_asgc, hw]; rfl
    unfold f19
    refine isS_go g0 (isS_go g1 (isS_go g2 ?_))
    have hln : evBi .len S [.lst ((w :: rest).map fun x => .str (SX.S x))] = some (.int (w :: rest).length) := by
      show some (D.int ((w :: rest).map fun x => D.str (SX.S x)).length) = _
      rw [List.length_map]
    have hlw : evBi .len S [.lst ((wordF w).toList.map .str)] = some (.int (wordF w).toList.length) := by
      show some (D.int ((wordF w).toList.map D.str).length) = _
      rw [List.length_map]
    have n4 := evne S (w :: rest).length 4
    by_cases h4 : ∃ v p r, rest = [v, p, r]
    · obtain ⟨v, p, r, rfl⟩ := h4
      have n4 : evCmp .ne S (.int ([w, v, p, r] : List (List Nat)).length) (.int 4) = some false := n4
      dsimp only
      cases hq : wordF w with
      | none =>
        rw [hq] at hlw
        have hlw : evBi .len S [.lst ((none : Option Str).toList.map .str)] = some (.int 0) := hlw
        have e0 := eveq S 0 0
        refine ⟨.str "no paper", [some (.str z), some (.lst (([w, v, p, r] : List (List Nat)).map fun x => .str (SX.S x))), some (.lst ((none : Option Str).toList.map .str)), none, none, none], ?_⟩
        generalize ((none : Option Str).toList.map D.str) = wl at *
        generalize (([w, v, p, r] : List (List Nat)).map fun x => D.str (SX.S x)) = rl at *
        generalize (([w, v, p, r] : List (List Nat)).length : Int) = nl at *
        simp [cfg_call, cfg_N, ev_var, ev_non, ev_bl, ev_int, ev_str, ev_glb, ev_bin, ev_neg, ev_no, ev_cmp, ev_chain, ev_isN, ev_and, ev_or, ev_ife, ev_call, ev_bi, ev_isi, ev_me, ev_repl, ev_lm, ev_idx, ev_slc, ev_rev, ev_tup, ev_lstF, ev_lstT, ev_dct, es_nil, es_cons, eo_none, eo_some, ss_nil, ss_cons, s_asg, s_asgc, s_par2, s_par3, s_aug, s_sset, s_xpr, s_ifs, s_ret, s_raise, s_try, it_of, it_rng1, eb_none, eb_some, b_ok, b_exc, t_ok, t_exc, r_some, RS.next, bindTg, List.getElem?_cons_zero, List.getElem?_cons_succ, List.set_cons_zero, List.set_cons_succ, hln, n4, hlw, e0, ss_nil]
      | some ww =>
        rw [hq] at hlw
        have hlw : evBi .len S [.lst [.str ww]] = some (.int 1) := hlw
        have e0 := eveq S 1 0
        have g3 : evS (cfgN txt.prog M (k + 3)) (.ifs (.or (.cmp .ne (.bi .len (.cons (.var 1) .nil)) (.int 4)) (.cmp .eq (.bi .len (.cons (.var 2) .nil)) (.int 0))) (.cons (.raise 0 (.str "no paper")) .nil) .nil) [some (.str z), some (.lst (([w, v, p, r] : List (List Nat)).map fun x => .str (SX.S x))), some (.lst [.str ww]), none, none, none] S =
            .ok .nx [some (.str z), some (.lst (([w, v, p, r] : List (List Nat)).map fun x => .str (SX.S x))), some (.lst [.str ww]), none, none, none] S := by
          generalize (([w, v, p, r] : List (List Nat)).map fun x => D.str (SX.S x)) = rl at *
          generalize (([w, v, p, r] : List (List Nat)).length : Int) = nl at *
          simp [cfg_call, cfg_N, ev_var, ev_non, ev_bl, ev_int, ev_str, ev_glb, ev_bin, ev_neg, ev_no, ev_cmp, ev_chain, ev_isN, ev_and, ev_or, ev_ife, ev_call, ev_bi, ev_isi, ev_me, ev_repl, ev_lm, ev_idx, ev_slc, ev_rev, ev_tup, ev_lstF, ev_lstT, ev_dct, es_nil, es_cons, eo_none, eo_some, ss_nil, ss_cons, s_asg, s_asgc, s_par2, s_par3, s_aug, s_sset, s_xpr, s_ifs, s_ret, s_raise, s_try, it_of, it_rng1, eb_none, eb_some, b_ok, b_exc, t_ok, t_exc, r_some, RS.next, bindTg, List.getElem?_cons_zero, List.getElem?_cons_succ, List.set_cons_zero, List.set_cons_succ, hln, n4, hlw, e0, ss_nil]
        refine isS_go g3 ?_
        have i1 : evIdx S (.lst (([w, v, p, r] : List (List Nat)).map fun x => .str (SX.S x))) (.int 1) = some (.str (SX.S v)) := rfl
        have i2 : evIdx S (.lst (([w, v, p, r] : List (List Nat)).map fun x => .str (SX.S x))) (.int 2) = some (.str (SX.S p)) := rfl
        have i3 : evIdx S (.lst (([w, v, p, r] : List (List Nat)).map fun x => .str (SX.S x))) (.int 3) = some (.str (SX.S r)) := rfl
        have j0 : evIdx S (.lst [.str ww]) (.int 0) = some (.str ww) := rfl
        have mv := hmem v (by simp)
        have mp := hmem p (by simp)
        have mr := hmem r (by simp)
        have hv := vals_isR (M := M) (k := k) (S := S) hM v (by omega) (h2.imp (by omega) mv.2) (env := [some (.str z), some (.lst (([w, v, p, r] : List (List Nat)).map fun x => .str (SX.S x))), some (.lst [.str ww]), none, none, none]) (src := .idx (.var 1) (.int 1)) (by simp only [cfg_call, cfg_N, ev_var, ev_non, ev_bl, ev_int, ev_str, ev_glb, ev_bin, ev_neg, ev_no, ev_cmp, ev_chain, ev_isN, ev_and, ev_or, ev_ife, ev_call, ev_bi, ev_isi, ev_me, ev_repl, ev_lm, ev_idx, ev_slc, ev_rev, ev_tup, ev_lstF, ev_lstT, ev_dct, es_nil, es_cons, eo_none, eo_some, ss_nil, ss_cons, s_asg, s_asgc, s_par2, s_par3, s_aug, s_sset, s_xpr, s_ifs, s_ret, s_raise, s_try, it_of, it_rng1, eb_none, eb_some, b_ok, b_exc, t_ok, t_exc, r_some, RS.next, bindTg, List.getElem?_cons_zero, List.getElem?_cons_succ, List.set_cons_zero, List.set_cons_succ, ↓reduceIte, i1]) (by simp [wipeE])
        have hp := read_numbers_ev (M := M) (k := k + 1) (S := S) p (by omega)
        have hr := read_numbers_ev (M := M) (k := k + 1) (S := S) r (by omega)
        generalize (([w, v, p, r] : List (List Nat)).map fun x => D.str (SX.S x)) = rl at *
        cases hv2 : rdVals v with
        | none =>
          rw [hv2] at hv
          obtain ⟨m, hv⟩ := hv
          refine ⟨m, [some (.str z), some (.lst rl), some (.lst [.str ww]), none, none, none], ss_ex ?_⟩
          rw [s_asg, hv]; rfl
        | some vs =>
          rw [hv2] at hv
          have hv : _ = _ := hv
          refine isS_go (e1 := [some (.str z), some (.lst rl), some (.lst [.str ww]), some (.tup (vs.map valD)), none, none]) (by rw [s_asg, hv]; rfl) (isS_last (isS_ret ?_))
          cases hp2 : rdNumsP p with
          | none =>
            rw [hp2] at hp
            obtain ⟨m, hp⟩ := hp
            refine ⟨m, ?_⟩
            simp only [cfg_call, cfg_N, ev_var, ev_non, ev_bl, ev_int, ev_str, ev_glb, ev_bin, ev_neg, ev_no, ev_cmp, ev_chain, ev_isN, ev_and, ev_or, ev_ife, ev_call, ev_bi, ev_isi, ev_me, ev_repl, ev_lm, ev_idx, ev_slc, ev_rev, ev_tup, ev_lstF, ev_lstT, ev_dct, es_nil, es_cons, eo_none, eo_some, ss_nil, ss_cons, s_asg, s_asgc, s_par2, s_par3, s_aug, s_sset, s_xpr, s_ifs, s_ret, s_raise, s_try, it_of, it_rng1, eb_none, eb_some, b_ok, b_exc, t_ok, t_exc, r_some, RS.next, bindTg, List.getElem?_cons_zero, List.getElem?_cons_succ, List.set_cons_zero, List.set_cons_succ, ↓reduceIte, j0, i2, hp, b_exc]
          | some ps =>
            rw [hp2] at hp
            have hp : _ = _ := hp
            cases hr2 : rdNumsP r with
            | none =>
              rw [hr2] at hr
              obtain ⟨m, hr⟩ := hr
              refine ⟨m, ?_⟩
              simp only [cfg_call, cfg_N, ev_var, ev_non, ev_bl, ev_int, ev_str, ev_glb, ev_bin, ev_neg, ev_no, ev_cmp, ev_chain, ev_isN, ev_and, ev_or, ev_ife, ev_call, ev_bi, ev_isi, ev_me, ev_repl, ev_lm, ev_idx, ev_slc, ev_rev, ev_tup, ev_lstF, ev_lstT, ev_dct, es_nil, es_cons, eo_none, eo_some, ss_nil, ss_cons, s_asg, s_asgc, s_par2, s_par3, s_aug, s_sset, s_xpr, s_ifs, s_ret, s_raise, s_try, it_of, it_rng1, eb_none, eb_some, b_ok, b_exc, t_ok, t_exc, r_some, RS.next, bindTg, List.getElem?_cons_zero, List.getElem?_cons_succ, List.set_cons_zero, List.set_cons_succ, ↓reduceIte, j0, i2, hp, i3, hr, b_exc]
            | some rs =>
              rw [hr2] at hr
              have hr : _ = _ := hr
              show _ = R.ok (papD (some ⟨ww, vs, ps, rs⟩)) S
              unfold papD
              simp [cfg_call, cfg_N, ev_var, ev_non, ev_bl, ev_int, ev_str, ev_glb, ev_bin, ev_neg, ev_no, ev_cmp, ev_chain, ev_isN, ev_and, ev_or, ev_ife, ev_call, ev_bi, ev_isi, ev_me, ev_repl, ev_lm, ev_idx, ev_slc, ev_rev, ev_tup, ev_lstF, ev_lstT, ev_dct, es_nil, es_cons, eo_none, eo_some, ss_nil, ss_cons, s_asg, s_asgc, s_par2, s_par3, s_aug, s_sset, s_xpr, s_ifs, s_ret, s_raise, s_try, it_of, it_rng1, eb_none, eb_some, b_ok, b_exc, t_ok, t_exc, r_some, RS.next, bindTg, List.getElem?_cons_zero, List.getElem?_cons_succ, List.set_cons_zero, List.set_cons_succ, j0, i2, hp, i3, hr, sizeLine_eq]
    · have e4 : (match w :: rest with | [w, v, p, r] => (match wordF w, rdVals v, rdNumsP p, rdNumsP r with | some w, some vs, some ps, some rs => some (some (Pap.mk w vs ps rs)) | _, _, _, _ => none) | _ => none) = none := by
        split
        · rename_i q; cases q; exact absurd ⟨_, _, _, rfl⟩ h4
        · rfl
      rw [e4]
      have : ¬ (((w :: rest).length : Int) = 4) := by
        intro q
        apply h4
        match rest, q with
        | [v, p, r], _ => exact ⟨v, p, r, rfl⟩
        | [], q => simp at q
        | [_], q => simp at q
        | [_, _], q => simp at q
        | _ :: _ :: _ :: _ :: _, q => simp at q; omega
      rw [decide_eq_false this] at n4
      refine ⟨.str "no paper", [some (.str z), some (.lst ((w :: rest).map fun x => .str (SX.S x))), some (.lst ((wordF w).toList.map .str)), none, none, none], ?_⟩
      generalize ((w :: rest).map fun x => D.str (SX.S x)) = rl at *
      generalize ((w :: rest).length : Int) = nl at *
      simp [cfg_call, cfg_N, ev_var, ev_non, ev_bl, ev_int, ev_str, ev_glb, ev_bin, ev_neg, ev_no, ev_cmp, ev_chain, ev_isN, ev_and, ev_or, ev_ife, ev_call, ev_bi, ev_isi, ev_me, ev_repl, ev_lm, ev_idx, ev_slc, ev_rev, ev_tup, ev_lstF, ev_lstT, ev_dct, es_nil, es_cons, eo_none, eo_some, ss_nil, ss_cons, s_asg, s_asgc, s_par2, s_par3, s_aug, s_sset, s_xpr, s_ifs, s_ret, s_raise, s_try, it_of, it_rng1, eb_none, eb_some, b_ok, b_exc, t_ok, t_exc, r_some, RS.next, bindTg, List.getElem?_cons_zero, List.getElem?_cons_succ, List.set_cons_zero, List.set_cons_succ, hln, n4, ss_nil]
def rdPart (x : List Nat) : Option (List Nat × Option Pap) :=
  match TL.par [32] [] x with
  | none => none
  | some (s, p) => match rdNumsP s, rdPap p with
    | some ns, some op => some (ns, op)
    | _, _ => none
theorem par_mem {b : List Nat} {c : Nat} : ∀ {l acc p q : List Nat}, TL.par b acc l = some (p, q) → c ∈ q → c ∈ l
  | [], acc, p, q, h, hc => by cases h
  | d :: r, acc, p, q, h, hc => by
    unfold TL.par at h
    split at h
    · cases h
      exact List.mem_of_mem_drop hc
    · exact List.mem_cons_of_mem _ (par_mem h hc)
theorem read_part_ev (hM : 10 ^ 4100 ≤ M) (x : List Nat) (hl : x.length ≤ 100000) (h2 : x.length ≤ 2000 ∨ 47 ∉ x) : IsR 0 (callN txt.prog M (k + 5) 20 [.str (SX.S x)] S) ((rdPart x).map partD) S := by
  refine call_isR (d := f20) rfl rfl ?_
  unfold rdPart f20
  cases hp : TL.par [32] [] x with
  | none =>
    have pv := part_ev_none S (by decide) hl hp
    have qe : evCmp .eq S (.str (SX.S [])) (.str (SX.S [])) = some true := eq_S S [] []
    refine ⟨.str "no part", [some (.str (SX.S x)), some (.str (SX.S x)), some (.str (SX.S [])), some (.str (SX.S []))], ?_⟩
    generalize SX.S x = z at *
    simp [cfg_call, cfg_N, ev_var, ev_non, ev_bl, ev_int, ev_str, ev_glb, ev_bin, ev_neg, ev_no, ev_cmp, ev_chain, ev_isN, ev_and, ev_or, ev_ife, ev_call, ev_bi, ev_isi, ev_me, ev_repl, ev_lm, ev_idx, ev_slc, ev_rev, ev_tup, ev_lstF, ev_lstT, ev_dct, es_nil, es_cons, eo_none, eo_some, ss_nil, ss_cons, s_asg, s_asgc, s_par2, s_par3, s_aug, s_sset, s_xpr, s_ifs, s_ret, s_raise, s_try, it_of, it_rng1, eb_none, eb_some, b_ok, b_exc, t_ok, t_exc, r_some, RS.next, bindTg, List.getElem?_cons_zero, List.getElem?_cons_succ, List.set_cons_zero, List.set_cons_succ, startE, lit_sp, lit_e, isStrD, pv, qe, ss_nil]
  | some ab =>
    obtain ⟨a, b⟩ := ab
    have hab := par_len hp
    have hbm : 47 ∉ x → 47 ∉ b := fun h hm => h (par_mem hp hm)
    simp only [List.length_nil, Nat.add_zero] at hab
    have pv := part_ev_some S (by decide) hl hp
    have qe : evCmp .eq S (.str (SX.S [32])) (.str (SX.S [])) = some false := eq_S S [32] []
    have ra := read_numbers_ev (M := M) (k := k + 2) (S := S) a (by omega)
    have rb := read_paper_ev (M := M) (k := k) (S := S) hM b (by omega) (h2.imp (by omega) hbm)
    dsimp only
    refine isS_go (e1 := [some (.str (SX.S x)), some (.str (SX.S a)), some (.str (SX.S [32])), some (.str (SX.S b))]) (by generalize SX.S x = z at *; simp [cfg_call, cfg_N, ev_var, ev_non, ev_bl, ev_int, ev_str, ev_glb, ev_bin, ev_neg, ev_no, ev_cmp, ev_chain, ev_isN, ev_and, ev_or, ev_ife, ev_call, ev_bi, ev_isi, ev_me, ev_repl, ev_lm, ev_idx, ev_slc, ev_rev, ev_tup, ev_lstF, ev_lstT, ev_dct, es_nil, es_cons, eo_none, eo_some, ss_nil, ss_cons, s_asg, s_asgc, s_par2, s_par3, s_aug, s_sset, s_xpr, s_ifs, s_ret, s_raise, s_try, it_of, it_rng1, eb_none, eb_some, b_ok, b_exc, t_ok, t_exc, r_some, RS.next, bindTg, List.getElem?_cons_zero, List.getElem?_cons_succ, List.set_cons_zero, List.set_cons_succ, startE, lit_sp, isStrD, pv]) (isS_go (e1 := [some (.str (SX.S x)), some (.str (SX.S a)), some (.str (SX.S [32])), some (.str (SX.S b))]) (by simp [cfg_call, cfg_N, ev_var, ev_non, ev_bl, ev_int, ev_str, ev_glb, ev_bin, ev_neg, ev_no, ev_cmp, ev_chain, ev_isN, ev_and, ev_or, ev_ife, ev_call, ev_bi, ev_isi, ev_me, ev_repl, ev_lm, ev_idx, ev_slc, ev_rev, ev_tup, ev_lstF, ev_lstT, ev_dct, es_nil, es_cons, eo_none, eo_some, ss_nil, ss_cons, s_asg, s_asgc, s_par2, s_par3, s_aug, s_sset, s_xpr, s_ifs, s_ret, s_raise, s_try, it_of, it_rng1, eb_none, eb_some, b_ok, b_exc, t_ok, t_exc, r_some, RS.next, bindTg, List.getElem?_cons_zero, List.getElem?_cons_succ, List.set_cons_zero, List.set_cons_succ, lit_e, qe, ss_nil]) (isS_last (isS_ret ?_)))
    generalize SX.S x = z at *
    cases h1 : rdNumsP a with
    | none =>
      rw [h1] at ra
      obtain ⟨m, ra⟩ := ra
      exact ⟨m, by simp only [cfg_call, cfg_N, ev_var, ev_non, ev_bl, ev_int, ev_str, ev_glb, ev_bin, ev_neg, ev_no, ev_cmp, ev_chain, ev_isN, ev_and, ev_or, ev_ife, ev_call, ev_bi, ev_isi, ev_me, ev_repl, ev_lm, ev_idx, ev_slc, ev_rev, ev_tup, ev_lstF, ev_lstT, ev_dct, es_nil, es_cons, eo_none, eo_some, ss_nil, ss_cons, s_asg, s_asgc, s_par2, s_par3, s_aug, s_sset, s_xpr, s_ifs, s_ret, s_raise, s_try, it_of, it_rng1, eb_none, eb_some, b_ok, b_exc, t_ok, t_exc, r_some, RS.next, bindTg, List.getElem?_cons_zero, List.getElem?_cons_succ, List.set_cons_zero, List.set_cons_succ, ↓reduceIte, ra, b_exc]⟩
    | some ns =>
      rw [h1] at ra
      have ra : _ = _ := ra
      cases h3 : rdPap b with
      | none =>
        rw [h3] at rb
        obtain ⟨m, rb⟩ := rb
        exact ⟨m, by simp only [cfg_call, cfg_N, ev_var, ev_non, ev_bl, ev_int, ev_str, ev_glb, ev_bin, ev_neg, ev_no, ev_cmp, ev_chain, ev_isN, ev_and, ev_or, ev_ife, ev_call, ev_bi, ev_isi, ev_me, ev_repl, ev_lm, ev_idx, ev_slc, ev_rev, ev_tup, ev_lstF, ev_lstT, ev_dct, es_nil, es_cons, eo_none, eo_some, ss_nil, ss_cons, s_asg, s_asgc, s_par2, s_par3, s_aug, s_sset, s_xpr, s_ifs, s_ret, s_raise, s_try, it_of, it_rng1, eb_none, eb_some, b_ok, b_exc, t_ok, t_exc, r_some, RS.next, bindTg, List.getElem?_cons_zero, List.getElem?_cons_succ, List.set_cons_zero, List.set_cons_succ, ↓reduceIte, ra, rb, b_exc]⟩
      | some op =>
        rw [h3] at rb
        have rb : _ = _ := rb
        show _ = R.ok (D.tup [numsD ns, papD op]) S
        simp [cfg_call, cfg_N, ev_var, ev_non, ev_bl, ev_int, ev_str, ev_glb, ev_bin, ev_neg, ev_no, ev_cmp, ev_chain, ev_isN, ev_and, ev_or, ev_ife, ev_call, ev_bi, ev_isi, ev_me, ev_repl, ev_lm, ev_idx, ev_slc, ev_rev, ev_tup, ev_lstF, ev_lstT, ev_dct, es_nil, es_cons, eo_none, eo_some, ss_nil, ss_cons, s_asg, s_asgc, s_par2, s_par3, s_aug, s_sset, s_xpr, s_ifs, s_ret, s_raise, s_try, it_of, it_rng1, eb_none, eb_some, b_ok, b_exc, t_ok, t_exc, r_some, RS.next, bindTg, List.getElem?_cons_zero, List.getElem?_cons_succ, List.set_cons_zero, List.set_cons_succ, ra, rb, sizeLine_eq]
/-! ### answers -/
def wYes : List Nat := [121, 101, 115]
def wNo : List Nat := [110, 111]
def isYN (x : List Nat) : Bool := decide (x = wYes) || decide (x = wNo)
def rdAns (l : List Nat) : Option Ans :=
  match TL.spl [59, 32] 0 [] l with
  | [] => none
  | h :: t => if isYN h = true then (t.mapM rdPart).map fun ps => ⟨decide (h = wYes), ps⟩ else none
/-- what is read has values that may be looked at -/
structure RdOk (a : Ans) : Prop where
  l : a.parts.length ≤ 100000
  n : ∀ p ∈ a.parts, p.1.length ≤ 100000 ∧ ∀ n ∈ p.1, n < 10 ^ 4000
  p : ∀ p ∈ a.parts, ∀ q, p.2 = some q → q.vs.length ≤ 100000 ∧ (∀ v ∈ q.vs, ∀ n d, v = some (n, d) → n < 10 ^ 4000 ∧ d < 10 ^ 4000) ∧ (q.ps.length ≤ 100000 ∧ ∀ n ∈ q.ps, n < 10 ^ 4000) ∧ (q.rs.length ≤ 100000 ∧ ∀ n ∈ q.rs, n < 10 ^ 4000)
theorem okDs_map {α : Type} (f : α → D) : ∀ l : List α, (∀ a ∈ l, okD (f a) = true) → okDs (l.map f) = true
  | [], _ => rfl
  | a :: l, h => by
    rw [List.map_cons]
    unfold okDs
    rw [h a List.mem_cons_self, okDs_map f l fun x hx => h x (List.mem_cons_of_mem _ hx)]; rfl
theorem ok_tup_of {ds : List D} (h : okDs ds = true) (hl : ds.length ≤ 100000) : okD (.tup ds) = true := by
  unfold okD; rw [h, decide_eq_true hl]; rfl
theorem ok_nat {n : Nat} (h : n < 10 ^ 4000) : okD (.int n) = true := decide_eq_true (by
  rw [Int.natAbs_natCast]
  exact Nat.lt_trans h (Nat.pow_lt_pow_right (by decide) (by decide)))
theorem ok_nums {ns : List Nat} (h : ns.length ≤ 100000 ∧ ∀ n ∈ ns, n < 10 ^ 4000) : okD (numsD ns) = true :=
  ok_tup_of (okDs_map _ ns fun n hn => ok_nat (h.2 n hn)) (by rw [List.length_map]; exact h.1)
theorem ok_val {v : Option (Nat × Nat)} (h : ∀ n d, v = some (n, d) → n < 10 ^ 4000 ∧ d < 10 ^ 4000) : okD (valD v) = true := by
  match v, h with
  | none, _ => rfl
  | some (n, d), h =>
    obtain ⟨h1, h2⟩ := h n d rfl
    refine ok_tup_of ?_ (by show 2 ≤ 100000; decide)
    unfold okDs okDs okDs
    rw [ok_nat h1, ok_nat h2]; rfl
theorem ok_ans {a : Ans} (h : RdOk a) : okD (ansD a) = true := by
  refine ok_tup_of ?_ (by show 2 ≤ 100000; decide)
  unfold okDs okDs okDs
  have h1 : okD (D.tup (a.parts.map partD)) = true := by
    refine ok_tup_of (okDs_map _ _ fun p hp => ?_) (by rw [List.length_map]; exact h.l)
    refine ok_tup_of ?_ (by show 2 ≤ 100000; decide)
    unfold okDs okDs okDs
    rw [ok_nums (h.n p hp)]
    have h2 : okD (papD p.2) = true := by
      cases hq : p.2 with
      | none => rfl
      | some q =>
        obtain ⟨g1, g2, g3, g4⟩ := h.p p hp q hq
        refine ok_tup_of ?_ (by show 4 ≤ 100000; decide)
        unfold okDs okDs okDs okDs okDs
        rw [ok_nums g3, ok_nums g4, ok_tup_of (okDs_map _ _ fun v hv => ok_val (g2 v hv)) (by rw [List.length_map]; exact g1)]
        rfl
    rw [h2]; rfl
  rw [h1]; rfl
end
end K54

set_option linter.all false
set_option maxRecDepth 100000
set_option maxHeartbeats 1000000
set_option exponentiation.threshold 20000
namespace K54
open PySem MP
theorem mapM_mem {α β : Type} {f : α → Option β} {l : List α} {ys : List β} (h : l.mapM f = some ys) : ∀ y ∈ ys, ∃ a ∈ l, f a = some y := fun y hy => by
  have e := mapM_all h
  have : some y ∈ l.map f := by rw [e]; exact List.mem_map.mpr ⟨y, hy, rfl⟩
  obtain ⟨a, ha, h⟩ := List.mem_map.mp this
  exact ⟨a, ha, h⟩
theorem mapM_len {α β : Type} {f : α → Option β} {l : List α} {ys : List β} (h : l.mapM f = some ys) : ys.length = l.length := by
  have e := congrArg List.length (mapM_all h)
  rw [List.length_map, List.length_map] at e
  exact e.symm
theorem rdNums_ok {l ns : List Nat} (h : rdNumsP l = some ns) : ns.length ≤ l.length + 1 ∧ ∀ n ∈ ns, n < 10 ^ 4000 := by
  unfold rdNumsP at h
  split at h
  · cases h; exact ⟨by simp, fun n hn => by cases hn⟩
  · refine ⟨?_, fun n hn => ?_⟩
    · rw [mapM_len h]; exact splL_len [44] l 0 []
    · obtain ⟨a, ha, e⟩ := mapM_mem h n hn
      exact (rdNumP_lt e).2
theorem rdVal_ok {l : List Nat} {v : Option (Nat × Nat)} (h : rdVal l = some v) : ∀ n d, v = some (n, d) → (n < 10 ^ 4000 ∧ d < 10 ^ 4000) ∧ 0 < d ∧ Nat.gcd n d = 1 := by
  intro n d e
  subst e
  unfold rdVal at h
  split at h
  · cases h
  · split at h
    · cases hr : rdNumP l with
      | none => rw [hr] at h; cases h
      | some m =>
        rw [hr] at h
        cases h
        exact ⟨⟨(rdNumP_lt hr).2, Nat.lt_of_lt_of_le (show 1 < 10 ^ 1 by decide) (Nat.pow_le_pow_right (by decide) (by decide))⟩, by decide, Nat.gcd_one_right n⟩
    · rename_i a b hp
      split at h
      · rename_i x y hx hy
        split at h
        · rename_i g
          cases h
          exact ⟨⟨(rdNumP_lt hx).2, (rdNumP_lt hy).2⟩, by omega, g.2⟩
        · cases h
      · cases h
theorem wordF_in {x : List Nat} {w : Str} (h : wordF x = some w) : (papers.any fun q => q.1 == w) = true := by
  unfold wordF at h
  split at h
  · cases h; decide +kernel
  split at h
  · cases h; decide +kernel
  split at h
  · cases h; decide +kernel
  split at h
  · cases h; decide +kernel
  · cases h
/-- what is known of a paper that is read -/
structure RdPap (x : List Nat) (q : Pap) : Prop where
  w : (papers.any fun z => z.1 == q.w) = true
  vl : q.vs.length ≤ x.length + 1
  v0 : q.vs ≠ []
  vs : ∀ v ∈ q.vs, ∀ n d, v = some (n, d) → (n < 10 ^ 4000 ∧ d < 10 ^ 4000) ∧ 0 < d ∧ Nat.gcd n d = 1
  pl : q.ps.length ≤ x.length + 1
  ps : ∀ n ∈ q.ps, n < 10 ^ 4000
  rl : q.rs.length ≤ x.length + 1
  rs : ∀ n ∈ q.rs, n < 10 ^ 4000
theorem rdPap_ok {x : List Nat} {q : Pap} (h : rdPap x = some (some q)) : RdPap x q := by
  unfold rdPap at h
  split at h
  · cases h
  split at h
  · rename_i w v p r hs
    split at h
    · rename_i w' vs ps rs hw hv hp hr
      cases h
      have m : ∀ y ∈ [w, v, p, r], y.length ≤ x.length := fun y hy => spl_mem (b := [58]) (by rw [hs]; exact hy)
      have mv := m v (by simp)
      have mp := m p (by simp)
      have mr := m r (by simp)
      have lv := mapM_len hv
      have l1 := splL_len [44] v 0 []
      refine ⟨wordF_in hw, by show vs.length ≤ _; omega, fun e => ?_, fun z hz n d e => ?_, ?_, (rdNums_ok hp).2, ?_, (rdNums_ok hr).2⟩
      · have e : vs = [] := e
        rw [e] at lv
        exact spl_ne [44] v 0 [] (List.length_eq_zero_iff.mp lv.symm)
      · obtain ⟨a, ha, e2⟩ := mapM_mem hv z hz
        exact rdVal_ok e2 n d e
      · have := (rdNums_ok hp).1; show ps.length ≤ _; omega
      · have := (rdNums_ok hr).1; show rs.length ≤ _; omega
    · cases h
  · cases h
theorem rdPart_ok {x : List Nat} {p : List Nat × Option Pap} (h : rdPart x = some p) : p.1.length ≤ x.length + 1 ∧ (∀ n ∈ p.1, n < 10 ^ 4000) ∧ ∀ q, p.2 = some q → RdPap x q := by
  unfold rdPart at h
  split at h
  · cases h
  · rename_i s t hp
    have hl := par_len hp
    simp only [List.length_nil, Nat.add_zero] at hl
    split at h
    · rename_i ns op hn ho
      cases h
      have := rdNums_ok hn
      refine ⟨by show ns.length ≤ _; omega, this.2, fun q hq => ?_⟩
      have hq : op = some q := hq
      subst hq
      have g := rdPap_ok ho
      exact ⟨g.w, Nat.le_trans g.vl (by omega), g.v0, g.vs, Nat.le_trans g.pl (by omega), g.ps, Nat.le_trans g.rl (by omega), g.rs⟩
    · cases h
theorem rdAns_parts {l : List Nat} {a : Ans} (h : rdAns l = some a) : a.parts.length ≤ l.length + 1 ∧ ∀ p ∈ a.parts, ∃ x, x.length ≤ l.length ∧ rdPart x = some p := by
  unfold rdAns at h
  split at h
  · cases h
  · rename_i hd t hs
    split at h
    · cases hm : t.mapM rdPart with
      | none => rw [hm] at h; cases h
      | some ps =>
        rw [hm] at h
        cases h
        have l1 := splL_len [59, 32] l 0 []
        rw [hs, List.length_cons] at l1
        refine ⟨by show ps.length ≤ _; rw [mapM_len hm]; omega, fun p hp => ?_⟩
        obtain ⟨x, hx, e⟩ := mapM_mem hm p hp
        exact ⟨x, spl_mem (b := [59, 32]) (by rw [hs]; exact List.mem_cons_of_mem _ hx), e⟩
    · cases h
theorem rdAns_ok {l : List Nat} {a : Ans} (hl : l.length ≤ 90000) (h : rdAns l = some a) : RdOk a := by
  obtain ⟨h1, h2⟩ := rdAns_parts h
  refine ⟨by omega, fun p hp => ?_, fun p hp q hq => ?_⟩
  · obtain ⟨x, hx, e⟩ := h2 p hp
    have := rdPart_ok e
    exact ⟨by omega, this.2.1⟩
  · obtain ⟨x, hx, e⟩ := h2 p hp
    have g := (rdPart_ok e).2.2 q hq
    have := g.vl
    have := g.pl
    have := g.rl
    exact ⟨by omega, fun v hv n d e => (g.vs v hv n d e).1, ⟨by omega, g.ps⟩, ⟨by omega, g.rs⟩⟩
def progRead (l : List Nat) : Option Ans := (rdAns l).filter fun a => answerOk (ansD a)
section
variable {M k : Nat} {S : Sto}
theorem yn_tup (T : Sto) (x : List Nat) : evCmp .notin T (.str (SX.S x)) (.tup [.str "yes", .str "no"]) = some (!isYN x) := by
  have : evIn T (.str (SX.S x)) (.tup [.str "yes", .str "no"]) = some (L2.inV (.str (SX.S x)) [.str "yes", .str "no"]) := rfl
  show (evIn T (.str (SX.S x)) (.tup [.str "yes", .str "no"])).map _ = _
  rw [this, lit_y, lit_n]
  have e1 : decide (([121, 101, 115] : List Nat) = x) = decide (x = wYes) := by rw [decide_eq_decide]; exact eq_comm
  have e2 : decide (([110, 111] : List Nat) = x) = decide (x = wNo) := by rw [decide_eq_decide]; exact eq_comm
  unfold L2.inV L2.eqV isYN
  simp only [List.any_cons, List.any_nil, Bool.or_false, SX.S_beq_eq, Option.map_some, e1, e2]
theorem yn_lst (T : Sto) (x : List Nat) : evCmp .notin T (.str (SX.S x)) (.lst [.str "yes", .str "no"]) = some (!isYN x) := by
  have : evIn T (.str (SX.S x)) (.lst [.str "yes", .str "no"]) = some (L2.inV (.str (SX.S x)) [.str "yes", .str "no"]) := rfl
  rw [← yn_tup T x]
  rfl

theorem cut1 (a : D) (t : List D) : cutD (a :: t) (some 1) none = t := by
  unfold cutD
  have e1 : HT.sIx (a :: t).length 0 (some 1) = 1 := by
    show (if (1 : Int) < 0 then ((1 : Int) + ((a :: t).length : Int)).toNat else min (1 : Int).toNat (a :: t).length) = 1
    rw [if_neg (by decide)]
    show min 1 (t.length + 1) = 1
    omega
  rw [e1]
  show (((a :: t).drop 1).take ((a :: t).length - 1)) = t
  rw [List.drop_one, List.tail_cons, List.length_cons, Nat.add_sub_cancel, List.take_length]
theorem semi_ev (x : List Nat) (hx : x.length ≤ 100000) {c : Cfg} {env : MP.Env} {e : E} (he : evE c e env S = .ok (.str (SX.S x)) S) : evE c (.me .split e (.cons (.str "; ") .nil)) env S = .ok (.lst ((TL.spl [59, 32] 0 [] x).map fun x => .str (SX.S x))) S := by
  have s := split_ev S x [59, 32] (by decide) (by decide) hx
  simp [cfg_call, cfg_N, ev_var, ev_non, ev_bl, ev_int, ev_str, ev_glb, ev_bin, ev_neg, ev_no, ev_cmp, ev_chain, ev_isN, ev_and, ev_or, ev_ife, ev_call, ev_bi, ev_isi, ev_me, ev_repl, ev_lm, ev_idx, ev_slc, ev_rev, ev_tup, ev_lstF, ev_lstT, ev_dct, es_nil, es_cons, eo_none, eo_some, ss_nil, ss_cons, s_asg, s_asgc, s_par2, s_par3, s_aug, s_sset, s_xpr, s_ifs, s_ret, s_raise, s_try, it_of, it_rng1, eb_none, eb_some, b_ok, b_exc, t_ok, t_exc, r_some, RS.next, bindTg, List.getElem?_cons_zero, List.getElem?_cons_succ, List.set_cons_zero, List.set_cons_succ, he, isStrD, lit_ss, s]
theorem read_answer_ev (hM : 10 ^ 4100 ≤ M) (l : List Nat) (hl : l.length ≤ 90000) (h2 : l.length ≤ 2000 ∨ 47 ∉ l) : IsR 0 (callN txt.prog M (k + 7) 21 [.str (SX.S l)] S) ((progRead l).map ansD) S := by
  refine call_isR (d := f21) rfl rfl ?_
  have sp := semi_ev (S := S) l (by omega) (c := cfgN txt.prog M (k + 6)) (env := [some (.str (SX.S l)), none, none, none]) (e := .var 0) (by simp [cfg_call, cfg_N, ev_var, ev_non, ev_bl, ev_int, ev_str, ev_glb, ev_bin, ev_neg, ev_no, ev_cmp, ev_chain, ev_isN, ev_and, ev_or, ev_ife, ev_call, ev_bi, ev_isi, ev_me, ev_repl, ev_lm, ev_idx, ev_slc, ev_rev, ev_tup, ev_lstF, ev_lstT, ev_dct, es_nil, es_cons, eo_none, eo_some, ss_nil, ss_cons, s_asg, s_asgc, s_par2, s_par3, s_aug, s_sset, s_xpr, s_ifs, s_ret, s_raise, s_try, it_of, it_rng1, eb_none, eb_some, b_ok, b_exc, t_ok, t_exc, r_some, RS.next, bindTg, List.getElem?_cons_zero, List.getElem?_cons_succ, List.set_cons_zero, List.set_cons_succ, ss_nil])
  have hmem : ∀ y ∈ TL.spl [59, 32] 0 [] l, y.length ≤ l.length ∧ (47 ∉ l → 47 ∉ y) := fun y hy => ⟨spl_mem hy, fun h2 hm => by rcases spl_mem_in hy hm with h | h; cases h; exact h2 h⟩
  have hsl := splL_len [59, 32] l 0 []
  have hne := spl_ne [59, 32] l 0 []
  have hok := fun a => rdAns_ok (a := a) hl
  unfold f21
  have hr : progRead l = (rdAns l).filter fun a => answerOk (ansD a) := rfl
  unfold rdAns at hr hok
  rw [hr]
  generalize TL.spl [59, 32] 0 [] l = rows at *
  generalize hz : SX.S l = z at *
  obtain ⟨h, t, rfl⟩ := List.exists_cons_of_ne_nil hne
  rw [List.length_cons] at hsl
  dsimp only at hok ⊢
  have g1 : evS (cfgN txt.prog M (k + 6)) (.asg (.nm 1) (.ife (.isi (.var 0) .str) (.me .split (.var 0) (.cons (.str "; ") .nil)) (.lst false (.cons (.str "") .nil)))) [some (.str z), none, none, none] S = .ok .nx [some (.str z), some (.lst ((h :: t).map fun x => .str (SX.S x))), none, none] S := by
    have e : evE (cfgN txt.prog M (k + 6)) (.ife (.isi (.var 0) .str) (.me .split (.var 0) (.cons (.str "; ") .nil)) (.lst false (.cons (.str "") .nil))) [some (.str z), none, none, none] S = evE (cfgN txt.prog M (k + 6)) (.me .split (.var 0) (.cons (.str "; ") .nil)) [some (.str z), none, none, none] S := by
      rw [ev_ife]
      simp only [cfg_call, cfg_N, ev_var, ev_non, ev_bl, ev_int, ev_str, ev_glb, ev_bin, ev_neg, ev_no, ev_cmp, ev_chain, ev_isN, ev_and, ev_or, ev_ife, ev_call, ev_bi, ev_isi, ev_me, ev_repl, ev_lm, ev_idx, ev_slc, ev_rev, ev_tup, ev_lstF, ev_lstT, ev_dct, es_nil, es_cons, eo_none, eo_some, ss_nil, ss_cons, s_asg, s_asgc, s_par2, s_par3, s_aug, s_sset, s_xpr, s_ifs, s_ret, s_raise, s_try, it_of, it_rng1, eb_none, eb_some, b_ok, b_exc, t_ok, t_exc, r_some, RS.next, bindTg, List.getElem?_cons_zero, List.getElem?_cons_succ, List.set_cons_zero, List.set_cons_succ, ↓reduceIte, isTy]
    rw [s_asg, e, sp]; rfl
  refine isS_go g1 ?_
  have i0 : evIdx S (.lst ((h :: t).map fun x => .str (SX.S x))) (.int 0) = some (.str (SX.S h)) := L2.atI_nat (j := 0) rfl
  have yn := yn_tup S h
  have qy := eq_S S h wYes
  have sl : evSlc S (.lst ((h :: t).map fun x => .str (SX.S x))) (some 1) none = some (.lst (t.map fun x => .str (SX.S x))) := by
    show (asL S (.lst ((h :: t).map fun x => .str (SX.S x)))).map (fun xs => D.lst (cutD xs (some 1) none)) = _
    unfold asL
    rw [List.map_cons, Option.map_some, cut1]
  have lY : (Str.ofString "yes" : Str) = SX.S wYes := lit_y
  cases hyn : isYN h with
  | false =>
    rw [hyn] at yn
    refine ⟨.str "no answer", [some (.str z), some (.lst ((h :: t).map fun x => .str (SX.S x))), none, none], ?_⟩
    generalize ((h :: t).map fun x => D.str (SX.S x)) = rl at *
    simp [cfg_call, cfg_N, ev_var, ev_non, ev_bl, ev_int, ev_str, ev_glb, ev_bin, ev_neg, ev_no, ev_cmp, ev_chain, ev_isN, ev_and, ev_or, ev_ife, ev_call, ev_bi, ev_isi, ev_me, ev_repl, ev_lm, ev_idx, ev_slc, ev_rev, ev_tup, ev_lstF, ev_lstT, ev_dct, es_nil, es_cons, eo_none, eo_some, ss_nil, ss_cons, s_asg, s_asgc, s_par2, s_par3, s_aug, s_sset, s_xpr, s_ifs, s_ret, s_raise, s_try, it_of, it_rng1, eb_none, eb_some, b_ok, b_exc, t_ok, t_exc, r_some, RS.next, bindTg, List.getElem?_cons_zero, List.getElem?_cons_succ, List.set_cons_zero, List.set_cons_succ, i0, yn, ss_nil, sizeLine_eq]
  | true =>
    rw [hyn] at yn hok
    have g2 : evS (cfgN txt.prog M (k + 6)) (.ifs (.cmp .notin (.idx (.var 1) (.int 0)) (.tup (.cons (.str "yes") (.cons (.str "no") .nil)))) (.cons (.raise 0 (.str "no answer")) .nil) .nil) [some (.str z), some (.lst ((h :: t).map fun x => .str (SX.S x))), none, none] S =
        .ok .nx [some (.str z), some (.lst ((h :: t).map fun x => .str (SX.S x))), none, none] S := by
      generalize ((h :: t).map fun x => D.str (SX.S x)) = rl at *
      simp [cfg_call, cfg_N, ev_var, ev_non, ev_bl, ev_int, ev_str, ev_glb, ev_bin, ev_neg, ev_no, ev_cmp, ev_chain, ev_isN, ev_and, ev_or, ev_ife, ev_call, ev_bi, ev_isi, ev_me, ev_repl, ev_lm, ev_idx, ev_slc, ev_rev, ev_tup, ev_lstF, ev_lstT, ev_dct, es_nil, es_cons, eo_none, eo_some, ss_nil, ss_cons, s_asg, s_asgc, s_par2, s_par3, s_aug, s_sset, s_xpr, s_ifs, s_ret, s_raise, s_try, it_of, it_rng1, eb_none, eb_some, b_ok, b_exc, t_ok, t_exc, r_some, RS.next, bindTg, List.getElem?_cons_zero, List.getElem?_cons_succ, List.set_cons_zero, List.set_cons_succ, i0, yn, ss_nil, sizeLine_eq]
    refine isS_go g2 ?_
    have hc := comp_op (j := 0) (c := cfgN txt.prog M (k + 6)) (env := [some (.str z), some (.lst ((h :: t).map fun x => .str (SX.S x))), none, none]) (S := S) (src := .slc (.var 1) (.some (.int 1)) .none) (elt := .call 20 (.cons (.var 3) .nil)) (tg := .nm 3) (own := [3]) (e := fun x => .str (SX.S x)) (g := fun x => (rdPart x).map partD)
      (l := t) (v := .lst (t.map fun x => .str (SX.S x))) (by generalize ((h :: t).map fun x => D.str (SX.S x)) = rl at *; simp [cfg_call, cfg_N, ev_var, ev_non, ev_bl, ev_int, ev_str, ev_glb, ev_bin, ev_neg, ev_no, ev_cmp, ev_chain, ev_isN, ev_and, ev_or, ev_ife, ev_call, ev_bi, ev_isi, ev_me, ev_repl, ev_lm, ev_idx, ev_slc, ev_rev, ev_tup, ev_lstF, ev_lstT, ev_dct, es_nil, es_cons, eo_none, eo_some, ss_nil, ss_cons, s_asg, s_asgc, s_par2, s_par3, s_aug, s_sset, s_xpr, s_ifs, s_ret, s_raise, s_try, it_of, it_rng1, eb_none, eb_some, b_ok, b_exc, t_ok, t_exc, r_some, RS.next, bindTg, List.getElem?_cons_zero, List.getElem?_cons_succ, List.set_cons_zero, List.set_cons_succ, sl]) rfl (le_big (by omega)) (fun x hx => ⟨_, rfl, by
        obtain ⟨m1, m2⟩ := hmem x (List.mem_cons_of_mem _ hx)
        have := read_part_ev (M := M) (k := k + 1) (S := S) hM x (by omega) (h2.imp (by omega) m2)
        refine isR_of_eq ?_ this
        generalize ((h :: t).map fun x => D.str (SX.S x)) = rl at *
        simp [cfg_call, cfg_N, ev_var, ev_non, ev_bl, ev_int, ev_str, ev_glb, ev_bin, ev_neg, ev_no, ev_cmp, ev_chain, ev_isN, ev_and, ev_or, ev_ife, ev_call, ev_bi, ev_isi, ev_me, ev_repl, ev_lm, ev_idx, ev_slc, ev_rev, ev_tup, ev_lstF, ev_lstT, ev_dct, es_nil, es_cons, eo_none, eo_some, ss_nil, ss_cons, s_asg, s_asgc, s_par2, s_par3, s_aug, s_sset, s_xpr, s_ifs, s_ret, s_raise, s_try, it_of, it_rng1, eb_none, eb_some, b_ok, b_exc, t_ok, t_exc, r_some, RS.next, bindTg, List.getElem?_cons_zero, List.getElem?_cons_succ, List.set_cons_zero, List.set_cons_succ, wipeE]⟩)
    rw [mapM_map] at hc
    rw [if_pos rfl]
    rw [if_pos rfl] at hok
    cases hm : t.mapM rdPart with
    | none =>
      rw [hm] at hc
      obtain ⟨m, hc⟩ := hc
      refine ⟨m, [some (.str z), some (.lst ((h :: t).map fun x => .str (SX.S x))), none, none], ss_ex ?_⟩
      generalize ((h :: t).map fun x => D.str (SX.S x)) = rl at *
      simp only [cfg_call, cfg_N, ev_var, ev_non, ev_bl, ev_int, ev_str, ev_glb, ev_bin, ev_neg, ev_no, ev_cmp, ev_chain, ev_isN, ev_and, ev_or, ev_ife, ev_call, ev_bi, ev_isi, ev_me, ev_repl, ev_lm, ev_idx, ev_slc, ev_rev, ev_tup, ev_lstF, ev_lstT, ev_dct, es_nil, es_cons, eo_none, eo_some, ss_nil, ss_cons, s_asg, s_asgc, s_par2, s_par3, s_aug, s_sset, s_xpr, s_ifs, s_ret, s_raise, s_try, it_of, it_rng1, eb_none, eb_some, b_ok, b_exc, t_ok, t_exc, r_some, RS.next, bindTg, List.getElem?_cons_zero, List.getElem?_cons_succ, List.set_cons_zero, List.set_cons_succ, ↓reduceIte, i0, lY, qy, hc, b_exc, t_exc]
    | some ps =>
      rw [hm] at hc hok
      have hc : evE _ _ _ S = .ok (.lst (ps.map partD)) S := hc
      have htu : evBi .tuple S [.lst (ps.map partD)] = some (.tup (ps.map partD)) := rfl
      have ok := ok_ans (hok ⟨decide (h = wYes), ps⟩ rfl)
      have c10 := has_answer_form_ev (M := M) (k := k) (S := S) hM (ansD ⟨decide (h = wYes), ps⟩) ok
      have g3 : evS (cfgN txt.prog M (k + 6)) (.asg (.nm 2) (.tup (.cons (.cmp .eq (.idx (.var 1) (.int 0)) (.str "yes")) (.cons (.bi .tuple (.cons (.comp false (.call 20 (.cons (.var 3) .nil)) (.nm 3) (.of (.slc (.var 1) (.some (.int 1)) .none)) .none [3]) .nil)) .nil)))) [some (.str z), some (.lst ((h :: t).map fun x => .str (SX.S x))), none, none] S =
          .ok .nx [some (.str z), some (.lst ((h :: t).map fun x => .str (SX.S x))), some (ansD ⟨decide (h = wYes), ps⟩), none] S := by
        have e : ansD ⟨decide (h = wYes), ps⟩ = .tup [.bl (decide (h = wYes)), .tup (ps.map partD)] := rfl
        rw [e]
        generalize ((h :: t).map fun x => D.str (SX.S x)) = rl at *
        generalize ps.map partD = pl at *
        simp [cfg_call, cfg_N, ev_var, ev_non, ev_bl, ev_int, ev_str, ev_glb, ev_bin, ev_neg, ev_no, ev_cmp, ev_chain, ev_isN, ev_and, ev_or, ev_ife, ev_call, ev_bi, ev_isi, ev_me, ev_repl, ev_lm, ev_idx, ev_slc, ev_rev, ev_tup, ev_lstF, ev_lstT, ev_dct, es_nil, es_cons, eo_none, eo_some, ss_nil, ss_cons, s_asg, s_asgc, s_par2, s_par3, s_aug, s_sset, s_xpr, s_ifs, s_ret, s_raise, s_try, it_of, it_rng1, eb_none, eb_some, b_ok, b_exc, t_ok, t_exc, r_some, RS.next, bindTg, List.getElem?_cons_zero, List.getElem?_cons_succ, List.set_cons_zero, List.set_cons_succ, i0, lY, qy, hc, htu, sizeLine_eq]
      refine isS_go g3 ?_
      show IsS 0 _ (((some (Ans.mk (decide (h = wYes)) ps)).filter fun a => answerOk (ansD a)).map ansD) S
      cases hf : answerOk (ansD ⟨decide (h = wYes), ps⟩) with
      | false =>
        rw [hf] at c10
        rw [Option.filter_some, hf]
        refine ⟨.str "no answer", [some (.str z), some (.lst ((h :: t).map fun x => .str (SX.S x))), some (ansD ⟨decide (h = wYes), ps⟩), none], ?_⟩
        generalize ansD ⟨decide (h = wYes), ps⟩ = A at *
        simp [cfg_call, cfg_N, ev_var, ev_non, ev_bl, ev_int, ev_str, ev_glb, ev_bin, ev_neg, ev_no, ev_cmp, ev_chain, ev_isN, ev_and, ev_or, ev_ife, ev_call, ev_bi, ev_isi, ev_me, ev_repl, ev_lm, ev_idx, ev_slc, ev_rev, ev_tup, ev_lstF, ev_lstT, ev_dct, es_nil, es_cons, eo_none, eo_some, ss_nil, ss_cons, s_asg, s_asgc, s_par2, s_par3, s_aug, s_sset, s_xpr, s_ifs, s_ret, s_raise, s_try, it_of, it_rng1, eb_none, eb_some, b_ok, b_exc, t_ok, t_exc, r_some, RS.next, bindTg, List.getElem?_cons_zero, List.getElem?_cons_succ, List.set_cons_zero, List.set_cons_succ, c10, ss_nil]
      | true =>
        rw [hf] at c10
        rw [Option.filter_some, hf]
        refine ⟨[some (.str z), some (.lst ((h :: t).map fun x => .str (SX.S x))), some (ansD ⟨decide (h = wYes), ps⟩), none], ?_⟩
        generalize ansD ⟨decide (h = wYes), ps⟩ = A at *
        simp [cfg_call, cfg_N, ev_var, ev_non, ev_bl, ev_int, ev_str, ev_glb, ev_bin, ev_neg, ev_no, ev_cmp, ev_chain, ev_isN, ev_and, ev_or, ev_ife, ev_call, ev_bi, ev_isi, ev_me, ev_repl, ev_lm, ev_idx, ev_slc, ev_rev, ev_tup, ev_lstF, ev_lstT, ev_dct, es_nil, es_cons, eo_none, eo_some, ss_nil, ss_cons, s_asg, s_asgc, s_par2, s_par3, s_aug, s_sset, s_xpr, s_ifs, s_ret, s_raise, s_try, it_of, it_rng1, eb_none, eb_some, b_ok, b_exc, t_ok, t_exc, r_some, RS.next, bindTg, List.getElem?_cons_zero, List.getElem?_cons_succ, List.set_cons_zero, List.set_cons_succ, c10, ss_nil]
/-- .. of what is no text -/
theorem read_answer_no (d : D) (h : isTy S d .str = some false) : ∃ m, callN txt.prog M (k + 1) 21 [d] S = .exc 0 m S := by
  refine ⟨.str "no answer", call_exc (d := f21) rfl rfl ⟨[some d, some (.lst [.str ""]), none, none], ?_⟩⟩
  have i0 : evIdx S (.lst [.str ""]) (.int 0) = some (.str (SX.S [])) := by rw [lit_e]; rfl
  have yn : evCmp .notin S (.str (SX.S [])) (.tup [.str "yes", .str "no"]) = some true := yn_tup S []
  simp [cfg_call, cfg_N, ev_var, ev_non, ev_bl, ev_int, ev_str, ev_glb, ev_bin, ev_neg, ev_no, ev_cmp, ev_chain, ev_isN, ev_and, ev_or, ev_ife, ev_call, ev_bi, ev_isi, ev_me, ev_repl, ev_lm, ev_idx, ev_slc, ev_rev, ev_tup, ev_lstF, ev_lstT, ev_dct, es_nil, es_cons, eo_none, eo_some, ss_nil, ss_cons, s_asg, s_asgc, s_par2, s_par3, s_aug, s_sset, s_xpr, s_ifs, s_ret, s_raise, s_try, it_of, it_rng1, eb_none, eb_some, b_ok, b_exc, t_ok, t_exc, r_some, RS.next, bindTg, List.getElem?_cons_zero, List.getElem?_cons_succ, List.set_cons_zero, List.set_cons_succ, f21, startE, h, i0, yn, ss_nil, sizeLine_eq]
end
end K54

set_option linter.all false
set_option maxRecDepth 100000
set_option maxHeartbeats 1000000
set_option exponentiation.threshold 20000
namespace K54
open PySem MP
/-! ### as the law reads answers -/
def lawRows (lot : List Nat) (rows : List (List Nat)) : Option (List Nat × Option Pap) :=
  match rows with
  | [w, v, p, r] => match wordF w, rdVals v, lawNums p 1, lawNums r 1 with
    | some w, some vs, some ps, some rs => some (lot, some ⟨w, vs, ps, rs⟩)
    | _, _, _, _ => none
  | _ => none
theorem lawRows_no {lot : List Nat} {rows : List (List Nat)} (h : ¬ ∃ w v p r, rows = [w, v, p, r]) : lawRows lot rows = none := by
  unfold lawRows
  split
  · exact absurd ⟨_, _, _, _, rfl⟩ h
  · rfl
def lawPart (x : List Nat) : Option (List Nat × Option Pap) :=
  match TL.par [32] [] x with
  | none => none
  | some (s, told) => match lawNums s 0 with
    | none => none
    | some lot => if told = [45] then some (lot, none) else lawRows lot (TL.spl [58] 0 [] told)
def lawRead (l : List Nat) : Option Ans :=
  match TL.spl [59, 32] 0 [] l with
  | [] => none
  | h :: t => if isYN h = true then (t.mapM lawPart).map fun ps => ⟨decide (h = wYes), ps⟩ else none
def lawWords : List (Str × Str) := [("most", "most"), ("least", "least"), ("gainmost", "gain most"), ("gainleast", "gain least")]
theorem words_in (x : List Nat) : (lawWords.any fun p => p.1 == SX.S x) = (wordF x).isSome ∧ lawWords.lookup (SX.S x) = wordF x := by
  have l1 : (Str.ofString "most" : Str) = SX.S wMost := by decide +kernel
  have l2 : (Str.ofString "least" : Str) = SX.S wLeast := by decide +kernel
  have l3 : (Str.ofString "gainmost" : Str) = SX.S wGMost := by decide +kernel
  have l4 : (Str.ofString "gainleast" : Str) = SX.S wGLeast := by decide +kernel
  have q : ∀ y : List Nat, (SX.S y == SX.S x) = decide (x = y) := fun y => by rw [SX.S_beq_eq, decide_eq_decide]; exact eq_comm
  have q2 : ∀ y : List Nat, (SX.S x == SX.S y) = decide (x = y) := fun y => by rw [SX.S_beq_eq]
  unfold lawWords wordF
  rw [l3, l4]
  constructor
  · simp only [List.any_cons, List.any_nil, Bool.or_false]
    rw [show ((Str.ofString "most" : Str) == SX.S x) = decide (x = wMost) by rw [l1, q], show ((Str.ofString "least" : Str) == SX.S x) = decide (x = wLeast) by rw [l2, q], q, q]
    by_cases h1 : x = wMost
    · subst h1; decide +kernel
    · by_cases h2 : x = wLeast
      · subst h2; decide +kernel
      · by_cases h3 : x = wGMost
        · subst h3; decide +kernel
        · by_cases h4 : x = wGLeast
          · subst h4; decide +kernel
          · simp [h1, h2, h3, h4]
  · simp only [List.lookup_cons, List.lookup_nil]
    rw [show (SX.S x == (Str.ofString "most" : Str)) = decide (x = wMost) by rw [l1, q2], show (SX.S x == (Str.ofString "least" : Str)) = decide (x = wLeast) by rw [l2, q2], q2, q2]
    by_cases h1 : x = wMost
    · subst h1; decide +kernel
    · by_cases h2 : x = wLeast
      · subst h2; decide +kernel
      · by_cases h3 : x = wGMost
        · subst h3; decide +kernel
        · by_cases h4 : x = wGLeast
          · subst h4; decide +kernel
          · simp [h1, h2, h3, h4]
theorem toPs_oval : ∀ os : List (Option (Option (Nat × Nat))), ∃ ps, toPs (os.map ovalD) = some ps ∧ PyData.canLayAll0 ps = true ∧ PyData.depthAll ps ≤ 3 ∧ (ps.any fun z => PyData.eqv z .none) = os.any Option.isNone
  | [] => ⟨[], rfl, rfl, by decide, rfl⟩
  | o :: os => by
    obtain ⟨ps, h1, h2, h3, h4⟩ := toPs_oval os
    have : ∃ p, toP (ovalD o) = some p ∧ PyData.canLay0 p = true ∧ PyData.depth p ≤ 3 ∧ PyData.eqv p .none = o.isNone := by
      match o with
      | none => exact ⟨.none, rfl, rfl, by decide, rfl⟩
      | some none => exact ⟨.list [.none], rfl, rfl, by decide, rfl⟩
      | some (some (n, d)) => exact ⟨.list [.tuple [.int n, .int d]], rfl, rfl, by show PyData.depth _ ≤ 3; simp [PyData.depth, PyData.depthAll], rfl⟩
    obtain ⟨p, g1, g2, g3, g4⟩ := this
    refine ⟨p :: ps, ?_, ?_, ?_, ?_⟩
    · rw [List.map_cons]; unfold toPs; rw [g1, h1]
    · unfold PyData.canLayAll0; rw [g2, h2]; rfl
    · unfold PyData.depthAll; omega
    · rw [List.any_cons, List.any_cons, g4, h4]
theorem scVs_oval : ∀ {os : List (Option (Option (Nat × Nat)))} {vs : List L2.V}, scVs (os.map ovalD) = some vs → L2.inV .non vs = os.any Option.isNone
  | [], vs, h => by cases h; rfl
  | none :: os, vs, h => by
    rw [List.map_cons] at h
    unfold scVs at h
    cases q : scVs (os.map ovalD) with
    | none => rw [q] at h; cases h
    | some us =>
      rw [q] at h
      cases h
      rfl
  | some v :: os, vs, h => by
    rw [List.map_cons] at h
    unfold scVs at h
    cases h
theorem in_oval (T : Sto) (os : List (Option (Option (Nat × Nat)))) : evCmp .isin T .non (.lst (os.map ovalD)) = some (os.any Option.isNone) := by
  show evIn T .non (.lst (os.map ovalD)) = _
  unfold evIn
  dsimp only
  cases q : scVs (os.map ovalD) with
  | some vs =>
    have : inSc T .non (.lst (os.map ovalD)) = some (L2.inV .non vs) := by
      unfold inSc asL scV
      dsimp only
      rw [q]
    rw [this, scVs_oval q]
  | none =>
    have : inSc T .non (.lst (os.map ovalD)) = none := by
      unfold inSc asL scV
      dsimp only
      rw [q]
    rw [this]
    obtain ⟨ps, h1, h2, h3, h4⟩ := toPs_oval os
    have t1 : toPS T (.lst (os.map ovalD)) = some (.list ps) := by
      show (toPs (os.map ovalD)).map PyData.list = _
      rw [h1]; rfl
    have t2 : toPS T .non = some .none := rfl
    rw [t1, t2]
    dsimp only
    have s1 : SeqAt.shaped (.list ps) = true := by
      unfold SeqAt.shaped
      have : PyData.canLay0 (.list ps) = true := h2
      rw [this, Bool.true_and, decide_eq_true_eq]
      unfold PyData.depth
      omega
    rw [s1, show SeqAt.shaped .none = true from rfl, Bool.and_self, if_pos rfl, h4]
theorem ex_rt {c : Cfg} {a : St} {as : Sts} {env : MP.Env} {S S1 : Sto} {d : D} (h : ∃ e, evS c a env S = .ok (.rt d) e S1) : ∃ e, evSs c (.cons a as) env S = .ok (.rt d) e S1 := by
  obtain ⟨e, h⟩ := h
  exact ⟨e, ss_rt h⟩
section
variable {M k : Nat} {S : Sto}
def lawVals : E := .comp false (.call 37 (.cons (.var 13) .nil)) (.nm 13) (.of (.me .split (.idx (.var 9) (.int 1)) (.cons (.str ",") .nil))) .none [13]
def lawHeads : E := .comp false (.idx (.var 13) (.int 0)) (.nm 13) (.of (.var 10)) .none [13]
def lawA : St := .xpr (.lm .append (.var 3) (.cons (.tup (.cons (.var 8) (.cons .non .nil))) .nil))
def lawB : Sts := (.cons (.par3 10 11 12 lawVals (.call 36 (.cons (.idx (.var 9) (.int 2)) (.cons (.int 1) .nil))) (.call 36 (.cons (.idx (.var 9) (.int 3)) (.cons (.int 1) .nil))))
  (.cons (.ifs (.or (.cmp .isin .non (.var 10)) (.or (.isN false (.var 11)) (.isN false (.var 12)))) (.cons (.ret .non)
  .nil) .nil)
  (.cons (.xpr (.lm .append (.var 3) (.cons (.tup (.cons (.var 8) (.cons (.tup (.cons (.idx (.var 4) (.idx (.var 9) (.int 0))) (.cons (.bi .tuple (.cons lawHeads .nil)) (.cons (.var 11) (.cons (.var 12) .nil))))) .nil))) .nil)))
  .nil)))
def lawC : E := (.or (.cmp .eq (.var 6) (.str "")) (.or (.isN false (.var 8)) (.and (.cmp .ne (.var 7) (.str "-")) (.or (.cmp .ne (.bi .len (.cons (.var 9) .nil)) (.int 4)) (.cmp .notin (.idx (.var 9) (.int 0)) (.var 4))))))
def lawTurn : Sts := (.cons (.asg (.tup [5, 6, 7]) (.me .partition (.var 1) (.cons (.str " ") .nil)))
  (.cons (.par2 8 9 (.call 36 (.cons (.var 5) (.cons (.int 0) .nil))) (.me .split (.var 7) (.cons (.str ":") .nil)))
  (.cons (.asg (.nm 4) (.dct [("most", "most"), ("least", "least"), ("gainmost", "gain most"), ("gainleast", "gain least")]))
  (.cons (.ifs lawC (.cons (.ret .non)
  .nil) .nil)
  (.cons (.ifs (.cmp .eq (.var 7) (.str "-")) (.cons lawA
  .nil) lawB)
  .nil)))))
theorem f38_eq : f38 = ⟨1, 14, (.cons (.par2 2 3 (.me .split (.var 0) (.cons (.str "; ") .nil)) (.lst true .nil))
  (.cons (.ifs (.cmp .notin (.idx (.var 2) (.int 0)) (.lst false (.cons (.str "yes") (.cons (.str "no") .nil)))) (.cons (.ret .non)
  .nil) .nil)
  (.cons (.for_ (.nm 1) (.of (.slc (.var 2) (.some (.int 1)) .none)) lawTurn)
  (.cons (.ret (.tup (.cons (.cmp .eq (.idx (.var 2) (.int 0)) (.str "yes")) (.cons (.bi .tuple (.cons (.var 3) .nil)) .nil))))
  .nil))))⟩ := rfl
theorem non_onums (o : Option (List Nat)) : isNon (onumsD o) = o.isNone := by cases o <;> rfl
def ennv (z : D) (x : Option D) (rl : D) (n : Nat) (y4 y5 y6 y7 y8 y9 y10 y11 y12 y13 : Option D) : MP.Env := [some z, x, some rl, some (.loc n), y4, y5, y6, y7, y8, y9, y10, y11, y12, y13]
theorem lawB_ev (hM : 10 ^ 4100 ≤ M) (lot : List Nat) (w v p r : List Nat) (wd : Str) (hw : wordF w = some wd) (lv : v.length ≤ 2000) (lp : p.length ≤ 2000) (lr : r.length ≤ 2000) (xs : List D) (hx : xs.length ≤ 1000000) (z rl : D) (y1 y5 y6 y7 y10 y11 y12 y13 : Option D) :
    match rdVals v, lawNums p 1, lawNums r 1 with
    | some vs, some ps, some rs => ∃ u10 u11 u12, evSs (cfgN txt.prog M (k + 3)) lawB (ennv z y1 rl S.length (some (.dct lawWords)) y5 y6 y7 (some (numsD lot)) (some (.lst (([w, v, p, r] : List (List Nat)).map fun x => .str (SX.S x)))) y10 y11 y12 y13) (S ++ [.lst xs]) =
        .ok .nx (ennv z y1 rl S.length (some (.dct lawWords)) y5 y6 y7 (some (numsD lot)) (some (.lst (([w, v, p, r] : List (List Nat)).map fun x => .str (SX.S x)))) u10 u11 u12 y13) (S ++ [.lst (xs ++ [partD (lot, some ⟨wd, vs, ps, rs⟩)])])
    | _, _, _ => ∃ e1, evSs (cfgN txt.prog M (k + 3)) lawB (ennv z y1 rl S.length (some (.dct lawWords)) y5 y6 y7 (some (numsD lot)) (some (.lst (([w, v, p, r] : List (List Nat)).map fun x => .str (SX.S x)))) y10 y11 y12 y13) (S ++ [.lst xs]) =
        .ok (.rt .non) e1 (S ++ [.lst xs]) := by
  have i0 : ∀ T : Sto, evIdx T (.lst (([w, v, p, r] : List (List Nat)).map fun x => .str (SX.S x))) (.int 0) = some (.str (SX.S w)) := fun T => rfl
  have i1 : ∀ T : Sto, evIdx T (.lst (([w, v, p, r] : List (List Nat)).map fun x => .str (SX.S x))) (.int 1) = some (.str (SX.S v)) := fun T => rfl
  have i2 : ∀ T : Sto, evIdx T (.lst (([w, v, p, r] : List (List Nat)).map fun x => .str (SX.S x))) (.int 2) = some (.str (SX.S p)) := fun T => rfl
  have i3 : ∀ T : Sto, evIdx T (.lst (([w, v, p, r] : List (List Nat)).map fun x => .str (SX.S x))) (.int 3) = some (.str (SX.S r)) := fun T => rfl
  have lk : ∀ T : Sto, evIdx T (.dct lawWords) (.str (SX.S w)) = some (.str wd) := fun T => by
    show (lawWords.lookup (SX.S w)).map D.str = _
    rw [(words_in w).2, hw]; rfl
  generalize (([w, v, p, r] : List (List Nat)).map fun x => D.str (SX.S x)) = rows at *
  have hc : ∀ T : Sto, evE (cfgN txt.prog M (k + 3)) lawVals (ennv z y1 rl S.length (some (.dct lawWords)) y5 y6 y7 (some (numsD lot)) (some (.lst rows)) y10 y11 y12 y13) T = .ok (.lst (((TL.spl [44] 0 [] v).map rdVal).map ovalD)) T := fun T => by
    refine (comp_al (e := fun x => .str (SX.S x)) (g := fun x => ovalD (rdVal x)) (l := TL.spl [44] 0 [] v) (comma_ev v (by omega) (by unfold ennv; simp only [cfg_call, cfg_N, ev_var, ev_non, ev_bl, ev_int, ev_str, ev_glb, ev_bin, ev_neg, ev_no, ev_cmp, ev_chain, ev_isN, ev_and, ev_or, ev_ife, ev_call, ev_bi, ev_isi, ev_me, ev_repl, ev_lm, ev_idx, ev_slc, ev_rev, ev_tup, ev_lstF, ev_lstT, ev_dct, es_nil, es_cons, eo_none, eo_some, ss_nil, ss_cons, s_asg, s_asgc, s_par2, s_par3, s_aug, s_sset, s_xpr, s_ifs, s_ret, s_raise, s_try, it_of, it_rng1, eb_none, eb_some, b_ok, b_exc, t_ok, t_exc, r_some, RS.next, bindTg, List.getElem?_cons_zero, List.getElem?_cons_succ, List.set_cons_zero, List.set_cons_succ, ↓reduceIte, i1])) rfl (le_big (spl_le (by omega))) (fun x hx => ⟨_, rfl, ?_⟩)).trans (by rw [List.map_map]; rfl)
    have := law_read_value_ev (M := M) (k := k) (S := T) hM x (by have := spl_mem hx; omega)
    unfold ennv
    simp [cfg_call, cfg_N, ev_var, ev_non, ev_bl, ev_int, ev_str, ev_glb, ev_bin, ev_neg, ev_no, ev_cmp, ev_chain, ev_isN, ev_and, ev_or, ev_ife, ev_call, ev_bi, ev_isi, ev_me, ev_repl, ev_lm, ev_idx, ev_slc, ev_rev, ev_tup, ev_lstF, ev_lstT, ev_dct, es_nil, es_cons, eo_none, eo_some, ss_nil, ss_cons, s_asg, s_asgc, s_par2, s_par3, s_aug, s_sset, s_xpr, s_ifs, s_ret, s_raise, s_try, it_of, it_rng1, eb_none, eb_some, b_ok, b_exc, t_ok, t_exc, r_some, RS.next, bindTg, List.getElem?_cons_zero, List.getElem?_cons_succ, List.set_cons_zero, List.set_cons_succ, wipeE, this]
  have hp := fun T : Sto => law_read_numbers_ev (M := M) (k := k + 1) (S := T) p 1 (by omega)
  have hr := fun T : Sto => law_read_numbers_ev (M := M) (k := k + 1) (S := T) r 1 (by omega)
  have hin := fun T : Sto => in_oval T ((TL.spl [44] 0 [] v).map rdVal)
  have hn : ((TL.spl [44] 0 [] v).map rdVal).any Option.isNone = (rdVals v).isNone := by
    unfold rdVals
    cases q : (TL.spl [44] 0 [] v).mapM rdVal with
    | none =>
      obtain ⟨a, ha, e⟩ := mapM_none q
      exact List.any_eq_true.mpr ⟨none, List.mem_map.mpr ⟨a, ha, e⟩, rfl⟩
    | some vs =>
      rw [mapM_all q, List.any_map]
      simp [Function.comp_def]
  rw [hn] at hin
  have n1 := non_onums (lawNums p 1)
  have n2 := non_onums (lawNums r 1)
  have g1 : evS (cfgN txt.prog M (k + 3)) (.par3 10 11 12 lawVals (.call 36 (.cons (.idx (.var 9) (.int 2)) (.cons (.int 1) .nil))) (.call 36 (.cons (.idx (.var 9) (.int 3)) (.cons (.int 1) .nil)))) (ennv z y1 rl S.length (some (.dct lawWords)) y5 y6 y7 (some (numsD lot)) (some (.lst rows)) y10 y11 y12 y13) (S ++ [.lst xs]) =
      .ok .nx (ennv z y1 rl S.length (some (.dct lawWords)) y5 y6 y7 (some (numsD lot)) (some (.lst rows)) (some (.lst (((TL.spl [44] 0 [] v).map rdVal).map ovalD))) (some (onumsD (lawNums p 1))) (some (onumsD (lawNums r 1))) y13) (S ++ [.lst xs]) := by
    rw [s_par3, hc]
    generalize (((TL.spl [44] 0 [] v).map rdVal).map ovalD) = ll at *
    have hp : ∀ T : Sto, callN txt.prog M (k + 1 + 2) 36 [.str (SX.S p), .int 1] T = _ := hp
    have hr : ∀ T : Sto, callN txt.prog M (k + 1 + 2) 36 [.str (SX.S r), .int 1] T = _ := hr
    have hp : ∀ T : Sto, callN txt.prog M (k + 3) 36 [.str (SX.S p), .int 1] T = _ := hp
    have hr : ∀ T : Sto, callN txt.prog M (k + 3) 36 [.str (SX.S r), .int 1] T = _ := hr
    unfold ennv
    simp only [cfg_call, cfg_N, ev_var, ev_non, ev_bl, ev_int, ev_str, ev_glb, ev_bin, ev_neg, ev_no, ev_cmp, ev_chain, ev_isN, ev_and, ev_or, ev_ife, ev_call, ev_bi, ev_isi, ev_me, ev_repl, ev_lm, ev_idx, ev_slc, ev_rev, ev_tup, ev_lstF, ev_lstT, ev_dct, es_nil, es_cons, eo_none, eo_some, ss_nil, ss_cons, s_asg, s_asgc, s_par2, s_par3, s_aug, s_sset, s_xpr, s_ifs, s_ret, s_raise, s_try, it_of, it_rng1, eb_none, eb_some, b_ok, b_exc, t_ok, t_exc, r_some, RS.next, bindTg, List.getElem?_cons_zero, List.getElem?_cons_succ, List.set_cons_zero, List.set_cons_succ, ↓reduceIte, i2, i3, hp, hr]
  unfold lawB
  rw [ss_go g1]
  have hb : ∀ o : Option (List Nat), isNon (onumsD o) = o.isNone := non_onums
  cases hv : rdVals v with
  | none =>
    rw [hv] at hin
    refine ex_rt ?_
    rw [s_ifs]
    unfold ennv
    generalize (((TL.spl [44] 0 [] v).map rdVal).map ovalD) = ll at *
    simp only [cfg_call, cfg_N, ev_var, ev_non, ev_bl, ev_int, ev_str, ev_glb, ev_bin, ev_neg, ev_no, ev_cmp, ev_chain, ev_isN, ev_and, ev_or, ev_ife, ev_call, ev_bi, ev_isi, ev_me, ev_repl, ev_lm, ev_idx, ev_slc, ev_rev, ev_tup, ev_lstF, ev_lstT, ev_dct, es_nil, es_cons, eo_none, eo_some, ss_nil, ss_cons, s_asg, s_asgc, s_par2, s_par3, s_aug, s_sset, s_xpr, s_ifs, s_ret, s_raise, s_try, it_of, it_rng1, eb_none, eb_some, b_ok, b_exc, t_ok, t_exc, r_some, RS.next, bindTg, List.getElem?_cons_zero, List.getElem?_cons_succ, List.set_cons_zero, List.set_cons_succ, ↓reduceIte, hin, Option.isNone_none]
    exact ⟨_, rfl⟩
  | some vs =>
    rw [hv] at hin
    have hvs : (TL.spl [44] 0 [] v).map rdVal = vs.map some := mapM_all hv
    rw [hvs] at hin ⊢
    rw [List.map_map] at hin ⊢
    cases hp2 : lawNums p 1 with
    | none =>
      refine ex_rt ?_
      rw [s_ifs]
      unfold ennv
      generalize (vs.map (ovalD ∘ some)) = ll at *
      simp only [cfg_call, cfg_N, ev_var, ev_non, ev_bl, ev_int, ev_str, ev_glb, ev_bin, ev_neg, ev_no, ev_cmp, ev_chain, ev_isN, ev_and, ev_or, ev_ife, ev_call, ev_bi, ev_isi, ev_me, ev_repl, ev_lm, ev_idx, ev_slc, ev_rev, ev_tup, ev_lstF, ev_lstT, ev_dct, es_nil, es_cons, eo_none, eo_some, ss_nil, ss_cons, s_asg, s_asgc, s_par2, s_par3, s_aug, s_sset, s_xpr, s_ifs, s_ret, s_raise, s_try, it_of, it_rng1, eb_none, eb_some, b_ok, b_exc, t_ok, t_exc, r_some, RS.next, bindTg, List.getElem?_cons_zero, List.getElem?_cons_succ, List.set_cons_zero, List.set_cons_succ, ↓reduceIte, hin, Option.isNone_some, onumsD, isNon, Bool.not_false]
      exact ⟨_, rfl⟩
    | some ps =>
      cases hr2 : lawNums r 1 with
      | none =>
        refine ex_rt ?_
        rw [s_ifs]
        unfold ennv
        generalize (vs.map (ovalD ∘ some)) = ll at *
        have n3 : isNon (onumsD (some ps)) = false := rfl
        generalize onumsD (some ps) = pd at *
        have n5 : isNon .non = true := rfl
        simp only [cfg_call, cfg_N, ev_var, ev_non, ev_bl, ev_int, ev_str, ev_glb, ev_bin, ev_neg, ev_no, ev_cmp, ev_chain, ev_isN, ev_and, ev_or, ev_ife, ev_call, ev_bi, ev_isi, ev_me, ev_repl, ev_lm, ev_idx, ev_slc, ev_rev, ev_tup, ev_lstF, ev_lstT, ev_dct, es_nil, es_cons, eo_none, eo_some, ss_nil, ss_cons, s_asg, s_asgc, s_par2, s_par3, s_aug, s_sset, s_xpr, s_ifs, s_ret, s_raise, s_try, it_of, it_rng1, eb_none, eb_some, b_ok, b_exc, t_ok, t_exc, r_some, RS.next, bindTg, List.getElem?_cons_zero, List.getElem?_cons_succ, List.set_cons_zero, List.set_cons_succ, ↓reduceIte, hin, Option.isNone_some, n3, n5, onumsD, Bool.not_false, Bool.false_eq_true]
        exact ⟨_, rfl⟩
      | some rs =>
        have n3 : isNon (onumsD (some ps)) = false := rfl
        have n4 : isNon (onumsD (some rs)) = false := rfl
        have g2 : evS (cfgN txt.prog M (k + 3)) (.ifs (.or (.cmp .isin .non (.var 10)) (.or (.isN false (.var 11)) (.isN false (.var 12)))) (.cons (.ret .non) .nil) .nil) (ennv z y1 rl S.length (some (.dct lawWords)) y5 y6 y7 (some (numsD lot)) (some (.lst rows)) (some (.lst (vs.map (ovalD ∘ some)))) (some (onumsD (some ps))) (some (onumsD (some rs))) y13) (S ++ [.lst xs]) =
            .ok .nx (ennv z y1 rl S.length (some (.dct lawWords)) y5 y6 y7 (some (numsD lot)) (some (.lst rows)) (some (.lst (vs.map (ovalD ∘ some)))) (some (onumsD (some ps))) (some (onumsD (some rs))) y13) (S ++ [.lst xs]) := by
          unfold ennv
          generalize (vs.map (ovalD ∘ some)) = ll at *
          generalize onumsD (some ps) = pd at *
          generalize onumsD (some rs) = rd at *
          simp only [cfg_call, cfg_N, ev_var, ev_non, ev_bl, ev_int, ev_str, ev_glb, ev_bin, ev_neg, ev_no, ev_cmp, ev_chain, ev_isN, ev_and, ev_or, ev_ife, ev_call, ev_bi, ev_isi, ev_me, ev_repl, ev_lm, ev_idx, ev_slc, ev_rev, ev_tup, ev_lstF, ev_lstT, ev_dct, es_nil, es_cons, eo_none, eo_some, ss_nil, ss_cons, s_asg, s_asgc, s_par2, s_par3, s_aug, s_sset, s_xpr, s_ifs, s_ret, s_raise, s_try, it_of, it_rng1, eb_none, eb_some, b_ok, b_exc, t_ok, t_exc, r_some, RS.next, bindTg, List.getElem?_cons_zero, List.getElem?_cons_succ, List.set_cons_zero, List.set_cons_succ, ↓reduceIte, hin, Option.isNone_some, n3, n4, ss_nil, Bool.false_eq_true]
        refine ⟨some (.lst (vs.map (ovalD ∘ some))), some (onumsD (some ps)), some (onumsD (some rs)), ?_⟩
        rw [ss_go g2]
        have hh : ∀ T : Sto, evE (cfgN txt.prog M (k + 3)) lawHeads (ennv z y1 rl S.length (some (.dct lawWords)) y5 y6 y7 (some (numsD lot)) (some (.lst rows)) (some (.lst (vs.map (ovalD ∘ some)))) (some (onumsD (some ps))) (some (onumsD (some rs))) y13) T = .ok (.lst (vs.map valD)) T := fun T => by
          refine comp_al (e := ovalD ∘ some) (g := valD) (l := vs) (v := .lst (vs.map (ovalD ∘ some))) (by unfold ennv; simp only [cfg_call, cfg_N, ev_var, ev_non, ev_bl, ev_int, ev_str, ev_glb, ev_bin, ev_neg, ev_no, ev_cmp, ev_chain, ev_isN, ev_and, ev_or, ev_ife, ev_call, ev_bi, ev_isi, ev_me, ev_repl, ev_lm, ev_idx, ev_slc, ev_rev, ev_tup, ev_lstF, ev_lstT, ev_dct, es_nil, es_cons, eo_none, eo_some, ss_nil, ss_cons, s_asg, s_asgc, s_par2, s_par3, s_aug, s_sset, s_xpr, s_ifs, s_ret, s_raise, s_try, it_of, it_rng1, eb_none, eb_some, b_ok, b_exc, t_ok, t_exc, r_some, RS.next, bindTg, List.getElem?_cons_zero, List.getElem?_cons_succ, List.set_cons_zero, List.set_cons_succ, ↓reduceIte, ss_nil]) rfl ?_ (fun x hx => ⟨_, rfl, ?_⟩)
          · have := mapM_len hv
            have := splL_len [44] v 0 []
            exact le_big (by omega)
          · have : evIdx T ((ovalD ∘ some) x) (.int 0) = some (valD x) := rfl
            unfold ennv
            generalize (ovalD ∘ some) x = zz at *
            generalize onumsD (some ps) = pd at *
            generalize onumsD (some rs) = rd at *
            simp [cfg_call, cfg_N, ev_var, ev_non, ev_bl, ev_int, ev_str, ev_glb, ev_bin, ev_neg, ev_no, ev_cmp, ev_chain, ev_isN, ev_and, ev_or, ev_ife, ev_call, ev_bi, ev_isi, ev_me, ev_repl, ev_lm, ev_idx, ev_slc, ev_rev, ev_tup, ev_lstF, ev_lstT, ev_dct, es_nil, es_cons, eo_none, eo_some, ss_nil, ss_cons, s_asg, s_asgc, s_par2, s_par3, s_aug, s_sset, s_xpr, s_ifs, s_ret, s_raise, s_try, it_of, it_rng1, eb_none, eb_some, b_ok, b_exc, t_ok, t_exc, r_some, RS.next, bindTg, List.getElem?_cons_zero, List.getElem?_cons_succ, List.set_cons_zero, List.set_cons_succ, wipeE, this]
        have htu : ∀ T : Sto, evBi .tuple T [.lst (vs.map valD)] = some (.tup (vs.map valD)) := fun T => rfl
        have ap := app_last S xs (partD (lot, some ⟨wd, vs, ps, rs⟩)) hx
        have lo := loc_last S xs
        have e : partD (lot, some ⟨wd, vs, ps, rs⟩) = .tup [numsD lot, .tup [.str wd, .tup (vs.map valD), onumsD (some ps), onumsD (some rs)]] := rfl
        rw [e] at ap ⊢
        unfold ennv at hh ⊢
        generalize onumsD (some ps) = pd at *
        generalize onumsD (some rs) = rd at *
        generalize numsD lot = ld at *
        generalize vs.map valD = vl at *
        generalize S ++ [Ob.lst xs] = S1 at *
        simp [cfg_call, cfg_N, ev_var, ev_non, ev_bl, ev_int, ev_str, ev_glb, ev_bin, ev_neg, ev_no, ev_cmp, ev_chain, ev_isN, ev_and, ev_or, ev_ife, ev_call, ev_bi, ev_isi, ev_me, ev_repl, ev_lm, ev_idx, ev_slc, ev_rev, ev_tup, ev_lstF, ev_lstT, ev_dct, es_nil, es_cons, eo_none, eo_some, ss_nil, ss_cons, s_asg, s_asgc, s_par2, s_par3, s_aug, s_sset, s_xpr, s_ifs, s_ret, s_raise, s_try, it_of, it_rng1, eb_none, eb_some, b_ok, b_exc, t_ok, t_exc, r_some, RS.next, bindTg, List.getElem?_cons_zero, List.getElem?_cons_succ, List.set_cons_zero, List.set_cons_succ, lo, i0, lk, hh, htu, ap, ss_nil, sizeLine_eq]
end
end K54

set_option linter.all false
set_option maxRecDepth 100000
set_option maxHeartbeats 1000000
set_option exponentiation.threshold 20000
namespace K54
open PySem MP
theorem ex_go {c : Cfg} {a : St} {as : Sts} {env e1 : MP.Env} {S S1 S2 : Sto} {d : D} (h : evS c a env S = .ok .nx e1 S1) (g : ∃ e, evSs c as e1 S1 = .ok (.rt d) e S2) : ∃ e, evSs c (.cons a as) env S = .ok (.rt d) e S2 := by
  obtain ⟨e, g⟩ := g
  exact ⟨e, by rw [ss_go h]; exact g⟩
section
variable {M k : Nat} {S : Sto}
theorem law_turn_ev (hM : 10 ^ 4100 ≤ M) (x : List Nat) (hl : x.length ≤ 2000) (xs : List D) (hx : xs.length ≤ 1000000) (z rl : D) (y1 y4 y5 y6 y7 y8 y9 y10 y11 y12 y13 : Option D) :
    match lawPart x with
    | some b => ∃ e1, (∃ u1 u4 u5 u6 u7 u8 u9 u10 u11 u12 u13, e1 = ennv z u1 rl S.length u4 u5 u6 u7 u8 u9 u10 u11 u12 u13) ∧ fTurn (cfgN txt.prog M (k + 3)) (.nm 1) lawTurn (.str (SX.S x)) (ennv z y1 rl S.length y4 y5 y6 y7 y8 y9 y10 y11 y12 y13) (S ++ [.lst xs]) = .ok .nx e1 (S ++ [.lst (xs ++ [partD b])])
    | none => ∃ e1, fTurn (cfgN txt.prog M (k + 3)) (.nm 1) lawTurn (.str (SX.S x)) (ennv z y1 rl S.length y4 y5 y6 y7 y8 y9 y10 y11 y12 y13) (S ++ [.lst xs]) = .ok (.rt .non) e1 (S ++ [.lst xs]) := by
  have hb : bindTg (.nm 1) (ennv z y1 rl S.length y4 y5 y6 y7 y8 y9 y10 y11 y12 y13) (.str (SX.S x)) = some (ennv z (some (.str (SX.S x))) rl S.length y4 y5 y6 y7 y8 y9 y10 y11 y12 y13) := rfl
  rw [fTurn_of hb]
  -- the head of the turn, for what the partition gives
  have head : ∀ s t sp : List Nat, s.length ≤ 2000 → t.length ≤ 2000 → evMe .partition (S ++ [.lst xs]) (.str (SX.S x)) [.str (SX.S [32])] = some (.tup [.str (SX.S s), .str (SX.S sp), .str (SX.S t)]) → ∀ (rest : Sts) (r : RS),
      evSs (cfgN txt.prog M (k + 3)) rest (ennv z (some (.str (SX.S x))) rl S.length (some (.dct lawWords)) (some (.str (SX.S s))) (some (.str (SX.S sp))) (some (.str (SX.S t))) (some (onumsD (lawNums s 0))) (some (.lst ((TL.spl [58] 0 [] t).map fun x => .str (SX.S x)))) y10 y11 y12 y13) (S ++ [.lst xs]) = r →
      evSs (cfgN txt.prog M (k + 3)) (.cons (.asg (.tup [5, 6, 7]) (.me .partition (.var 1) (.cons (.str " ") .nil))) (.cons (.par2 8 9 (.call 36 (.cons (.var 5) (.cons (.int 0) .nil))) (.me .split (.var 7) (.cons (.str ":") .nil)))
        (.cons (.asg (.nm 4) (.dct [("most", "most"), ("least", "least"), ("gainmost", "gain most"), ("gainleast", "gain least")])) rest)))
        (ennv z (some (.str (SX.S x))) rl S.length y4 y5 y6 y7 y8 y9 y10 y11 y12 y13) (S ++ [.lst xs]) = r := by
    intro s t sp hs ht hp rest r hr
    have c1 := law_read_numbers_ev (M := M) (k := k + 1) (S := S ++ [.lst xs]) s 0 (by omega)
    have c1 : callN txt.prog M (k + 3) 36 [.str (SX.S s), .int 0] (S ++ [.lst xs]) = _ := c1
    have sp1 := colon_ev (S := S ++ [.lst xs]) t (by omega) (c := cfgN txt.prog M (k + 3)) (env := ennv z (some (.str (SX.S x))) rl S.length y4 (some (.str (SX.S s))) (some (.str (SX.S sp))) (some (.str (SX.S t))) y8 y9 y10 y11 y12 y13) (e := .var 7) (by unfold ennv; simp [cfg_call, cfg_N, ev_var, ev_non, ev_bl, ev_int, ev_str, ev_glb, ev_bin, ev_neg, ev_no, ev_cmp, ev_chain, ev_isN, ev_and, ev_or, ev_ife, ev_call, ev_bi, ev_isi, ev_me, ev_repl, ev_lm, ev_idx, ev_slc, ev_rev, ev_tup, ev_lstF, ev_lstT, ev_dct, es_nil, es_cons, eo_none, eo_some, ss_nil, ss_cons, s_asg, s_asgc, s_par2, s_par3, s_aug, s_sset, s_xpr, s_ifs, s_ret, s_raise, s_try, it_of, it_rng1, eb_none, eb_some, b_ok, b_exc, t_ok, t_exc, r_some, RS.next, bindTg, List.getElem?_cons_zero, List.getElem?_cons_succ, List.set_cons_zero, List.set_cons_succ, ss_nil])
    refine (ss_go (env1 := ennv z (some (.str (SX.S x))) rl S.length y4 (some (.str (SX.S s))) (some (.str (SX.S sp))) (some (.str (SX.S t))) y8 y9 y10 y11 y12 y13) (S1 := S ++ [.lst xs]) ?_).trans
      ((ss_go (env1 := ennv z (some (.str (SX.S x))) rl S.length y4 (some (.str (SX.S s))) (some (.str (SX.S sp))) (some (.str (SX.S t))) (some (onumsD (lawNums s 0))) (some (.lst ((TL.spl [58] 0 [] t).map fun x => .str (SX.S x)))) y10 y11 y12 y13) (S1 := S ++ [.lst xs]) ?_).trans
      ((ss_go (env1 := ennv z (some (.str (SX.S x))) rl S.length (some (.dct lawWords)) (some (.str (SX.S s))) (some (.str (SX.S sp))) (some (.str (SX.S t))) (some (onumsD (lawNums s 0))) (some (.lst ((TL.spl [58] 0 [] t).map fun x => .str (SX.S x)))) y10 y11 y12 y13) (S1 := S ++ [.lst xs]) ?_).trans hr))
    · unfold ennv
      generalize S ++ [Ob.lst xs] = S1 at *
      simp [cfg_call, cfg_N, ev_var, ev_non, ev_bl, ev_int, ev_str, ev_glb, ev_bin, ev_neg, ev_no, ev_cmp, ev_chain, ev_isN, ev_and, ev_or, ev_ife, ev_call, ev_bi, ev_isi, ev_me, ev_repl, ev_lm, ev_idx, ev_slc, ev_rev, ev_tup, ev_lstF, ev_lstT, ev_dct, es_nil, es_cons, eo_none, eo_some, ss_nil, ss_cons, s_asg, s_asgc, s_par2, s_par3, s_aug, s_sset, s_xpr, s_ifs, s_ret, s_raise, s_try, it_of, it_rng1, eb_none, eb_some, b_ok, b_exc, t_ok, t_exc, r_some, RS.next, bindTg, List.getElem?_cons_zero, List.getElem?_cons_succ, List.set_cons_zero, List.set_cons_succ, lit_sp, isStrD, hp]
    · have e36 : evE (cfgN txt.prog M (k + 3)) (.call 36 (.cons (.var 5) (.cons (.int 0) .nil))) (ennv z (some (.str (SX.S x))) rl S.length y4 (some (.str (SX.S s))) (some (.str (SX.S sp))) (some (.str (SX.S t))) y8 y9 y10 y11 y12 y13) (S ++ [.lst xs]) = .ok (onumsD (lawNums s 0)) (S ++ [.lst xs]) := by
        unfold ennv
        generalize S ++ [Ob.lst xs] = S1 at *
        simp only [cfg_call, cfg_N, ev_var, ev_non, ev_bl, ev_int, ev_str, ev_glb, ev_bin, ev_neg, ev_no, ev_cmp, ev_chain, ev_isN, ev_and, ev_or, ev_ife, ev_call, ev_bi, ev_isi, ev_me, ev_repl, ev_lm, ev_idx, ev_slc, ev_rev, ev_tup, ev_lstF, ev_lstT, ev_dct, es_nil, es_cons, eo_none, eo_some, ss_nil, ss_cons, s_asg, s_asgc, s_par2, s_par3, s_aug, s_sset, s_xpr, s_ifs, s_ret, s_raise, s_try, it_of, it_rng1, eb_none, eb_some, b_ok, b_exc, t_ok, t_exc, r_some, RS.next, bindTg, List.getElem?_cons_zero, List.getElem?_cons_succ, List.set_cons_zero, List.set_cons_succ, ↓reduceIte, c1]
      rw [s_par2, e36, t_ok, sp1]
      rfl
    · unfold ennv
      generalize S ++ [Ob.lst xs] = S1 at *
      simp [cfg_call, cfg_N, ev_var, ev_non, ev_bl, ev_int, ev_str, ev_glb, ev_bin, ev_neg, ev_no, ev_cmp, ev_chain, ev_isN, ev_and, ev_or, ev_ife, ev_call, ev_bi, ev_isi, ev_me, ev_repl, ev_lm, ev_idx, ev_slc, ev_rev, ev_tup, ev_lstF, ev_lstT, ev_dct, es_nil, es_cons, eo_none, eo_some, ss_nil, ss_cons, s_asg, s_asgc, s_par2, s_par3, s_aug, s_sset, s_xpr, s_ifs, s_ret, s_raise, s_try, it_of, it_rng1, eb_none, eb_some, b_ok, b_exc, t_ok, t_exc, r_some, RS.next, bindTg, List.getElem?_cons_zero, List.getElem?_cons_succ, List.set_cons_zero, List.set_cons_succ, lawWords]
  unfold lawPart lawTurn
  cases hp : TL.par [32] [] x with
  | none =>
    have pv := part_ev_none (S ++ [.lst xs]) (by decide) (by omega) hp
    have qe : evCmp .eq (S ++ [.lst xs]) (.str (SX.S [])) (.str (SX.S [])) = some true := eq_S _ [] []
    dsimp only
    refine ⟨_, head x [] [] hl (by decide) pv _ _ (ss_rt (d := .non) (env1 := ennv z (some (.str (SX.S x))) rl S.length (some (.dct lawWords)) (some (.str (SX.S x))) (some (.str (SX.S []))) (some (.str (SX.S []))) (some (onumsD (lawNums x 0))) (some (.lst ((TL.spl [58] 0 [] []).map fun x => .str (SX.S x)))) y10 y11 y12 y13) (S1 := S ++ [.lst xs]) ?_)⟩
    unfold lawC ennv
    generalize S ++ [Ob.lst xs] = S1 at *
    generalize ((TL.spl [58] 0 [] []).map fun x => D.str (SX.S x)) = rw at *
    simp only [cfg_call, cfg_N, ev_var, ev_non, ev_bl, ev_int, ev_str, ev_glb, ev_bin, ev_neg, ev_no, ev_cmp, ev_chain, ev_isN, ev_and, ev_or, ev_ife, ev_call, ev_bi, ev_isi, ev_me, ev_repl, ev_lm, ev_idx, ev_slc, ev_rev, ev_tup, ev_lstF, ev_lstT, ev_dct, es_nil, es_cons, eo_none, eo_some, ss_nil, ss_cons, s_asg, s_asgc, s_par2, s_par3, s_aug, s_sset, s_xpr, s_ifs, s_ret, s_raise, s_try, it_of, it_rng1, eb_none, eb_some, b_ok, b_exc, t_ok, t_exc, r_some, RS.next, bindTg, List.getElem?_cons_zero, List.getElem?_cons_succ, List.set_cons_zero, List.set_cons_succ, ↓reduceIte, lit_e, qe]
  | some ab =>
    obtain ⟨s, t⟩ := ab
    have hab := par_len hp
    simp only [List.length_nil, Nat.add_zero] at hab
    have pv := part_ev_some (S ++ [.lst xs]) (by decide) (by omega) hp
    have qe : evCmp .eq (S ++ [.lst xs]) (.str (SX.S [32])) (.str (SX.S [])) = some false := eq_S _ [32] []
    have qt := eq_S (S ++ [.lst xs]) t [45]
    have qn := ne_S (S ++ [.lst xs]) t [45]
    dsimp only
    have go := head s t [32] (by omega) (by omega) pv
    have lt := splL_len [58] t 0 []
    have hne := spl_ne [58] t 0 []
    have hmem : ∀ y ∈ TL.spl [58] 0 [] t, y.length ≤ t.length := fun y hy => spl_mem hy
    cases hs : lawNums s 0 with
    | none =>
      rw [hs] at go
      dsimp only
      refine ⟨_, go _ _ (ss_rt (d := .non) (env1 := ennv z (some (.str (SX.S x))) rl S.length (some (.dct lawWords)) (some (.str (SX.S s))) (some (.str (SX.S [32]))) (some (.str (SX.S t))) (some (onumsD none)) (some (.lst ((TL.spl [58] 0 [] t).map fun x => .str (SX.S x)))) y10 y11 y12 y13) (S1 := S ++ [.lst xs]) ?_)⟩
      have n5 : isNon .non = true := rfl
      unfold lawC ennv onumsD
      generalize S ++ [Ob.lst xs] = S1 at *
      generalize ((TL.spl [58] 0 [] t).map fun x => D.str (SX.S x)) = rw at *
      simp only [cfg_call, cfg_N, ev_var, ev_non, ev_bl, ev_int, ev_str, ev_glb, ev_bin, ev_neg, ev_no, ev_cmp, ev_chain, ev_isN, ev_and, ev_or, ev_ife, ev_call, ev_bi, ev_isi, ev_me, ev_repl, ev_lm, ev_idx, ev_slc, ev_rev, ev_tup, ev_lstF, ev_lstT, ev_dct, es_nil, es_cons, eo_none, eo_some, ss_nil, ss_cons, s_asg, s_asgc, s_par2, s_par3, s_aug, s_sset, s_xpr, s_ifs, s_ret, s_raise, s_try, it_of, it_rng1, eb_none, eb_some, b_ok, b_exc, t_ok, t_exc, r_some, RS.next, bindTg, List.getElem?_cons_zero, List.getElem?_cons_succ, List.set_cons_zero, List.set_cons_succ, ↓reduceIte, lit_e, qe, n5, Bool.not_false]
    | some lot =>
      rw [hs] at go
      dsimp only
      have n5 : isNon (onumsD (some lot)) = false := rfl
      by_cases ht : t = [45]
      · rw [if_pos ht]
        rw [decide_eq_true ht] at qt qn
        have ap := app_last S xs (partD (lot, none)) hx
        have lo := loc_last S xs
        refine ⟨_, ⟨_, _, _, _, _, _, _, _, _, _, _, rfl⟩, go _ _ ((ss_go (env1 := ennv z (some (.str (SX.S x))) rl S.length (some (.dct lawWords)) (some (.str (SX.S s))) (some (.str (SX.S [32]))) (some (.str (SX.S t))) (some (onumsD (some lot))) (some (.lst ((TL.spl [58] 0 [] t).map fun x => .str (SX.S x)))) y10 y11 y12 y13) (S1 := S ++ [.lst xs]) ?_).trans
          (ss_go (env1 := ennv z (some (.str (SX.S x))) rl S.length (some (.dct lawWords)) (some (.str (SX.S s))) (some (.str (SX.S [32]))) (some (.str (SX.S t))) (some (onumsD (some lot))) (some (.lst ((TL.spl [58] 0 [] t).map fun x => .str (SX.S x)))) y10 y11 y12 y13) (S1 := S ++ [.lst (xs ++ [partD (lot, none)])]) ?_))⟩
        · unfold lawC ennv
          generalize S ++ [Ob.lst xs] = S1 at *
          generalize ((TL.spl [58] 0 [] t).map fun x => D.str (SX.S x)) = rw at *
          generalize onumsD (some lot) = ld at *
          simp only [cfg_call, cfg_N, ev_var, ev_non, ev_bl, ev_int, ev_str, ev_glb, ev_bin, ev_neg, ev_no, ev_cmp, ev_chain, ev_isN, ev_and, ev_or, ev_ife, ev_call, ev_bi, ev_isi, ev_me, ev_repl, ev_lm, ev_idx, ev_slc, ev_rev, ev_tup, ev_lstF, ev_lstT, ev_dct, es_nil, es_cons, eo_none, eo_some, ss_nil, ss_cons, s_asg, s_asgc, s_par2, s_par3, s_aug, s_sset, s_xpr, s_ifs, s_ret, s_raise, s_try, it_of, it_rng1, eb_none, eb_some, b_ok, b_exc, t_ok, t_exc, r_some, RS.next, bindTg, List.getElem?_cons_zero, List.getElem?_cons_succ, List.set_cons_zero, List.set_cons_succ, ↓reduceIte, lit_e, lit_m, qe, n5, qn, ss_nil, Bool.not_true, Bool.false_eq_true]
        · have e : partD (lot, none) = .tup [onumsD (some lot), .non] := rfl
          rw [e] at ap ⊢
          unfold lawA ennv
          generalize onumsD (some lot) = ld at *
          generalize S ++ [Ob.lst xs] = S1 at *
          generalize ((TL.spl [58] 0 [] t).map fun x => D.str (SX.S x)) = rw at *
          simp [cfg_call, cfg_N, ev_var, ev_non, ev_bl, ev_int, ev_str, ev_glb, ev_bin, ev_neg, ev_no, ev_cmp, ev_chain, ev_isN, ev_and, ev_or, ev_ife, ev_call, ev_bi, ev_isi, ev_me, ev_repl, ev_lm, ev_idx, ev_slc, ev_rev, ev_tup, ev_lstF, ev_lstT, ev_dct, es_nil, es_cons, eo_none, eo_some, ss_nil, ss_cons, s_asg, s_asgc, s_par2, s_par3, s_aug, s_sset, s_xpr, s_ifs, s_ret, s_raise, s_try, it_of, it_rng1, eb_none, eb_some, b_ok, b_exc, t_ok, t_exc, r_some, RS.next, bindTg, List.getElem?_cons_zero, List.getElem?_cons_succ, List.set_cons_zero, List.set_cons_succ, lit_m, qt, lo, ap, ss_nil, sizeLine_eq]
      · rw [if_neg ht]
        rw [decide_eq_false ht] at qt qn
        have hln : evBi .len (S ++ [.lst xs]) [.lst ((TL.spl [58] 0 [] t).map fun x => .str (SX.S x))] = some (.int (TL.spl [58] 0 [] t).length) := by
          show some (D.int ((TL.spl [58] 0 [] t).map fun x => D.str (SX.S x)).length) = _
          rw [List.length_map]
        generalize TL.spl [58] 0 [] t = rows at *
        by_cases h4 : ∃ w v p r, rows = [w, v, p, r]
        · obtain ⟨w, v, p, r, rfl⟩ := h4
          have n4 : evCmp .ne (S ++ [.lst xs]) (.int ([w, v, p, r] : List (List Nat)).length) (.int 4) = some false := evne _ _ _
          have iw : evIdx (S ++ [.lst xs]) (.lst (([w, v, p, r] : List (List Nat)).map fun x => .str (SX.S x))) (.int 0) = some (.str (SX.S w)) := rfl
          have wi : evCmp .notin (S ++ [.lst xs]) (.str (SX.S w)) (.dct lawWords) = some (!(wordF w).isSome) := by
            show (some (lawWords.any fun p => p.1 == SX.S w)).map _ = _
            rw [(words_in w).1]; rfl
          cases hw : wordF w with
          | none =>
            rw [hw] at wi
            unfold lawRows
            dsimp only
            rw [hw]
            dsimp only
            refine ⟨_, go _ _ (ss_rt (d := .non) (env1 := ennv z (some (.str (SX.S x))) rl S.length (some (.dct lawWords)) (some (.str (SX.S s))) (some (.str (SX.S [32]))) (some (.str (SX.S t))) (some (onumsD (some lot))) (some (.lst (([w, v, p, r] : List (List Nat)).map fun x => .str (SX.S x)))) y10 y11 y12 y13) (S1 := S ++ [.lst xs]) ?_)⟩
            unfold lawC ennv
            generalize S ++ [Ob.lst xs] = S1 at *
            generalize (([w, v, p, r] : List (List Nat)).map fun x => D.str (SX.S x)) = rw at *
            generalize (([w, v, p, r] : List (List Nat)).length : Int) = ln at *
            generalize onumsD (some lot) = ld at *
            simp only [cfg_call, cfg_N, ev_var, ev_non, ev_bl, ev_int, ev_str, ev_glb, ev_bin, ev_neg, ev_no, ev_cmp, ev_chain, ev_isN, ev_and, ev_or, ev_ife, ev_call, ev_bi, ev_isi, ev_me, ev_repl, ev_lm, ev_idx, ev_slc, ev_rev, ev_tup, ev_lstF, ev_lstT, ev_dct, es_nil, es_cons, eo_none, eo_some, ss_nil, ss_cons, s_asg, s_asgc, s_par2, s_par3, s_aug, s_sset, s_xpr, s_ifs, s_ret, s_raise, s_try, it_of, it_rng1, eb_none, eb_some, b_ok, b_exc, t_ok, t_exc, r_some, RS.next, bindTg, List.getElem?_cons_zero, List.getElem?_cons_succ, List.set_cons_zero, List.set_cons_succ, ↓reduceIte, lit_e, lit_m, qe, n5, qn, hln, n4, iw, wi, ss_nil, Bool.not_false, Bool.false_eq_true, Option.isSome_none]
          | some wd =>
            rw [hw] at wi
            unfold lawRows
            dsimp only
            rw [hw]
            have lv := hmem v (by simp)
            have lp := hmem p (by simp)
            have lr := hmem r (by simp)
            have hB := lawB_ev (M := M) (k := k) (S := S) hM lot w v p r wd hw (by omega) (by omega) (by omega) xs hx z rl (some (.str (SX.S x))) (some (.str (SX.S s))) (some (.str (SX.S [32]))) (some (.str (SX.S t))) y10 y11 y12 y13
            have g1 : evS (cfgN txt.prog M (k + 3)) (.ifs lawC (.cons (.ret .non) .nil) .nil) (ennv z (some (.str (SX.S x))) rl S.length (some (.dct lawWords)) (some (.str (SX.S s))) (some (.str (SX.S [32]))) (some (.str (SX.S t))) (some (onumsD (some lot))) (some (.lst (([w, v, p, r] : List (List Nat)).map fun x => .str (SX.S x)))) y10 y11 y12 y13) (S ++ [.lst xs]) =
                .ok .nx (ennv z (some (.str (SX.S x))) rl S.length (some (.dct lawWords)) (some (.str (SX.S s))) (some (.str (SX.S [32]))) (some (.str (SX.S t))) (some (onumsD (some lot))) (some (.lst (([w, v, p, r] : List (List Nat)).map fun x => .str (SX.S x)))) y10 y11 y12 y13) (S ++ [.lst xs]) := by
              unfold lawC ennv
              generalize S ++ [Ob.lst xs] = S1 at *
              generalize (([w, v, p, r] : List (List Nat)).map fun x => D.str (SX.S x)) = rw at *
              generalize (([w, v, p, r] : List (List Nat)).length : Int) = ln at *
              generalize onumsD (some lot) = ld at *
              simp only [cfg_call, cfg_N, ev_var, ev_non, ev_bl, ev_int, ev_str, ev_glb, ev_bin, ev_neg, ev_no, ev_cmp, ev_chain, ev_isN, ev_and, ev_or, ev_ife, ev_call, ev_bi, ev_isi, ev_me, ev_repl, ev_lm, ev_idx, ev_slc, ev_rev, ev_tup, ev_lstF, ev_lstT, ev_dct, es_nil, es_cons, eo_none, eo_some, ss_nil, ss_cons, s_asg, s_asgc, s_par2, s_par3, s_aug, s_sset, s_xpr, s_ifs, s_ret, s_raise, s_try, it_of, it_rng1, eb_none, eb_some, b_ok, b_exc, t_ok, t_exc, r_some, RS.next, bindTg, List.getElem?_cons_zero, List.getElem?_cons_succ, List.set_cons_zero, List.set_cons_succ, ↓reduceIte, lit_e, lit_m, qe, n5, qn, hln, n4, iw, wi, ss_nil, Bool.not_true, Bool.not_false, Bool.false_eq_true, Option.isSome_some]
            have g2 : ∀ (rs : RS), evSs (cfgN txt.prog M (k + 3)) lawB (ennv z (some (.str (SX.S x))) rl S.length (some (.dct lawWords)) (some (.str (SX.S s))) (some (.str (SX.S [32]))) (some (.str (SX.S t))) (some (onumsD (some lot))) (some (.lst (([w, v, p, r] : List (List Nat)).map fun x => .str (SX.S x)))) y10 y11 y12 y13) (S ++ [.lst xs]) = rs →
                evS (cfgN txt.prog M (k + 3)) (.ifs (.cmp .eq (.var 7) (.str "-")) (.cons lawA .nil) lawB) (ennv z (some (.str (SX.S x))) rl S.length (some (.dct lawWords)) (some (.str (SX.S s))) (some (.str (SX.S [32]))) (some (.str (SX.S t))) (some (onumsD (some lot))) (some (.lst (([w, v, p, r] : List (List Nat)).map fun x => .str (SX.S x)))) y10 y11 y12 y13) (S ++ [.lst xs]) = rs := by
              intro rs hrs
              rw [← hrs, s_ifs]
              have e : evE (cfgN txt.prog M (k + 3)) (.cmp .eq (.var 7) (.str "-")) (ennv z (some (.str (SX.S x))) rl S.length (some (.dct lawWords)) (some (.str (SX.S s))) (some (.str (SX.S [32]))) (some (.str (SX.S t))) (some (onumsD (some lot))) (some (.lst (([w, v, p, r] : List (List Nat)).map fun x => .str (SX.S x)))) y10 y11 y12 y13) (S ++ [.lst xs]) = .ok (.bl false) (S ++ [.lst xs]) := by
                unfold ennv
                generalize S ++ [Ob.lst xs] = S1 at *
                simp only [cfg_call, cfg_N, ev_var, ev_non, ev_bl, ev_int, ev_str, ev_glb, ev_bin, ev_neg, ev_no, ev_cmp, ev_chain, ev_isN, ev_and, ev_or, ev_ife, ev_call, ev_bi, ev_isi, ev_me, ev_repl, ev_lm, ev_idx, ev_slc, ev_rev, ev_tup, ev_lstF, ev_lstT, ev_dct, es_nil, es_cons, eo_none, eo_some, ss_nil, ss_cons, s_asg, s_asgc, s_par2, s_par3, s_aug, s_sset, s_xpr, s_ifs, s_ret, s_raise, s_try, it_of, it_rng1, eb_none, eb_some, b_ok, b_exc, t_ok, t_exc, r_some, RS.next, bindTg, List.getElem?_cons_zero, List.getElem?_cons_succ, List.set_cons_zero, List.set_cons_succ, ↓reduceIte, lit_m, qt]
              rw [e]; rfl
            cases hv : rdVals v with
            | none =>
              rw [hv] at hB
              obtain ⟨e1, hB⟩ := hB
              exact ⟨e1, go _ _ ((ss_go g1).trans (ss_rt (g2 _ hB)))⟩
            | some vs =>
              rw [hv] at hB
              cases hp2 : lawNums p 1 with
              | none =>
                rw [hp2] at hB
                obtain ⟨e1, hB⟩ := hB
                exact ⟨e1, go _ _ ((ss_go g1).trans (ss_rt (g2 _ hB)))⟩
              | some ps =>
                rw [hp2] at hB
                cases hr2 : lawNums r 1 with
                | none =>
                  rw [hr2] at hB
                  obtain ⟨e1, hB⟩ := hB
                  exact ⟨e1, go _ _ ((ss_go g1).trans (ss_rt (g2 _ hB)))⟩
                | some rs =>
                  rw [hr2] at hB
                  obtain ⟨u10, u11, u12, hB⟩ := hB
                  exact ⟨_, ⟨_, _, _, _, _, _, _, _, _, _, _, rfl⟩, go _ _ ((ss_go g1).trans ((ss_go (g2 _ hB)).trans ss_nil))⟩
        · rw [lawRows_no h4]
          dsimp only
          have n4 : evCmp .ne (S ++ [.lst xs]) (.int rows.length) (.int 4) = some true := by
            have : ¬ ((rows.length : Int) = 4) := by
              intro q
              apply h4
              match rows, q with
              | [w, v, p, r], _ => exact ⟨w, v, p, r, rfl⟩
              | [], q => simp at q
              | [_], q => simp at q
              | [_, _], q => simp at q
              | [_, _, _], q => simp at q
              | _ :: _ :: _ :: _ :: _ :: _, q => simp at q; omega
            rw [evne, decide_eq_false this]; rfl
          refine ⟨_, go _ _ (ss_rt (d := .non) (env1 := ennv z (some (.str (SX.S x))) rl S.length (some (.dct lawWords)) (some (.str (SX.S s))) (some (.str (SX.S [32]))) (some (.str (SX.S t))) (some (onumsD (some lot))) (some (.lst (rows.map fun x => .str (SX.S x)))) y10 y11 y12 y13) (S1 := S ++ [.lst xs]) ?_)⟩
          unfold lawC ennv
          generalize S ++ [Ob.lst xs] = S1 at *
          generalize (rows.map fun x => D.str (SX.S x)) = rw at *
          generalize (rows.length : Int) = ln at *
          generalize onumsD (some lot) = ld at *
          simp only [cfg_call, cfg_N, ev_var, ev_non, ev_bl, ev_int, ev_str, ev_glb, ev_bin, ev_neg, ev_no, ev_cmp, ev_chain, ev_isN, ev_and, ev_or, ev_ife, ev_call, ev_bi, ev_isi, ev_me, ev_repl, ev_lm, ev_idx, ev_slc, ev_rev, ev_tup, ev_lstF, ev_lstT, ev_dct, es_nil, es_cons, eo_none, eo_some, ss_nil, ss_cons, s_asg, s_asgc, s_par2, s_par3, s_aug, s_sset, s_xpr, s_ifs, s_ret, s_raise, s_try, it_of, it_rng1, eb_none, eb_some, b_ok, b_exc, t_ok, t_exc, r_some, RS.next, bindTg, List.getElem?_cons_zero, List.getElem?_cons_succ, List.set_cons_zero, List.set_cons_succ, ↓reduceIte, lit_e, lit_m, qe, n5, qn, hln, n4, ss_nil, Bool.not_false, Bool.false_eq_true]
def oansD : Option Ans → D
  | none => .non
  | some a => ansD a
theorem law_read_ev (hM : 10 ^ 4100 ≤ M) (l : List Nat) (hl : l.length ≤ 2000) (hS : S.all (Ob.inf S.length) = true) (hD : ∀ a, lawRead l = some a → (ansD a).inf S.length = true) : callN txt.prog M (k + 4) 38 [.str (SX.S l)] S = .ok (oansD (lawRead l)) S := by
  have sp := semi_ev (S := S) l (by omega) (c := cfgN txt.prog M (k + 3)) (env := [some (.str (SX.S l)), none, none, none, none, none, none, none, none, none, none, none, none, none]) (e := .var 0) (by simp [cfg_call, cfg_N, ev_var, ev_non, ev_bl, ev_int, ev_str, ev_glb, ev_bin, ev_neg, ev_no, ev_cmp, ev_chain, ev_isN, ev_and, ev_or, ev_ife, ev_call, ev_bi, ev_isi, ev_me, ev_repl, ev_lm, ev_idx, ev_slc, ev_rev, ev_tup, ev_lstF, ev_lstT, ev_dct, es_nil, es_cons, eo_none, eo_some, ss_nil, ss_cons, s_asg, s_asgc, s_par2, s_par3, s_aug, s_sset, s_xpr, s_ifs, s_ret, s_raise, s_try, it_of, it_rng1, eb_none, eb_some, b_ok, b_exc, t_ok, t_exc, r_some, RS.next, bindTg, List.getElem?_cons_zero, List.getElem?_cons_succ, List.set_cons_zero, List.set_cons_succ, ss_nil])
  have hsl := splL_len [59, 32] l 0 []
  have hne := spl_ne [59, 32] l 0 []
  have hmem : ∀ y ∈ TL.spl [59, 32] 0 [] l, y.length ≤ l.length := fun y hy => spl_mem hy
  unfold lawRead at hD ⊢
  generalize TL.spl [59, 32] 0 [] l = rows at *
  generalize hz : SX.S l = z at *
  obtain ⟨h, t, rfl⟩ := List.exists_cons_of_ne_nil hne
  rw [List.length_cons] at hsl
  dsimp only at hD ⊢
  have g1 : evS (cfgN txt.prog M (k + 3)) (.par2 2 3 (.me .split (.var 0) (.cons (.str "; ") .nil)) (.lst true .nil)) [some (.str z), none, none, none, none, none, none, none, none, none, none, none, none, none] S =
      .ok .nx (ennv (.str z) none (.lst ((h :: t).map fun x => .str (SX.S x))) S.length none none none none none none none none none none) (S ++ [.lst []]) := by
    rw [s_par2, sp]
    unfold ennv
    generalize ((h :: t).map fun x => D.str (SX.S x)) = rl at *
    simp [cfg_call, cfg_N, ev_var, ev_non, ev_bl, ev_int, ev_str, ev_glb, ev_bin, ev_neg, ev_no, ev_cmp, ev_chain, ev_isN, ev_and, ev_or, ev_ife, ev_call, ev_bi, ev_isi, ev_me, ev_repl, ev_lm, ev_idx, ev_slc, ev_rev, ev_tup, ev_lstF, ev_lstT, ev_dct, es_nil, es_cons, eo_none, eo_some, ss_nil, ss_cons, s_asg, s_asgc, s_par2, s_par3, s_aug, s_sset, s_xpr, s_ifs, s_ret, s_raise, s_try, it_of, it_rng1, eb_none, eb_some, b_ok, b_exc, t_ok, t_exc, r_some, RS.next, bindTg, List.getElem?_cons_zero, List.getElem?_cons_succ, List.set_cons_zero, List.set_cons_succ, sizeLine_eq]
  have i0 : ∀ T : Sto, evIdx T (.lst ((h :: t).map fun x => .str (SX.S x))) (.int 0) = some (.str (SX.S h)) := fun T => L2.atI_nat (j := 0) rfl
  have yn := fun T => yn_lst T h
  have qy := fun T => eq_S T h wYes
  have lY : (Str.ofString "yes" : Str) = SX.S wYes := lit_y
  have sl : ∀ T : Sto, evSlc T (.lst ((h :: t).map fun x => .str (SX.S x))) (some 1) none = some (.lst (t.map fun x => .str (SX.S x))) := fun T => by
    show (asL T (.lst ((h :: t).map fun x => .str (SX.S x)))).map (fun xs => D.lst (cutD xs (some 1) none)) = _
    unfold asL
    rw [List.map_cons, Option.map_some, cut1]
  cases hyn : isYN h with
  | false =>
    rw [hyn] at yn
    show _ = R.ok D.non S
    refine call_gc (d := f38) (T := [.lst []]) rfl rfl rfl hS ⟨ennv (.str z) none (.lst ((h :: t).map fun x => .str (SX.S x))) S.length none none none none none none none none none none, ?_⟩
    rw [f38_eq]
    refine (ss_go g1).trans (ss_rt ?_)
    unfold ennv
    generalize ((h :: t).map fun x => D.str (SX.S x)) = rl at *
    simp [cfg_call, cfg_N, ev_var, ev_non, ev_bl, ev_int, ev_str, ev_glb, ev_bin, ev_neg, ev_no, ev_cmp, ev_chain, ev_isN, ev_and, ev_or, ev_ife, ev_call, ev_bi, ev_isi, ev_me, ev_repl, ev_lm, ev_idx, ev_slc, ev_rev, ev_tup, ev_lstF, ev_lstT, ev_dct, es_nil, es_cons, eo_none, eo_some, ss_nil, ss_cons, s_asg, s_asgc, s_par2, s_par3, s_aug, s_sset, s_xpr, s_ifs, s_ret, s_raise, s_try, it_of, it_rng1, eb_none, eb_some, b_ok, b_exc, t_ok, t_exc, r_some, RS.next, bindTg, List.getElem?_cons_zero, List.getElem?_cons_succ, List.set_cons_zero, List.set_cons_succ, i0, yn, ss_nil, sizeLine_eq]
  | true =>
    rw [hyn] at yn hD
    rw [if_pos rfl] at hD ⊢
    have g2 : evS (cfgN txt.prog M (k + 3)) (.ifs (.cmp .notin (.idx (.var 2) (.int 0)) (.lst false (.cons (.str "yes") (.cons (.str "no") .nil)))) (.cons (.ret .non) .nil) .nil) (ennv (.str z) none (.lst ((h :: t).map fun x => .str (SX.S x))) S.length none none none none none none none none none none) (S ++ [.lst []]) =
        .ok .nx (ennv (.str z) none (.lst ((h :: t).map fun x => .str (SX.S x))) S.length none none none none none none none none none none) (S ++ [.lst []]) := by
      unfold ennv
      generalize ((h :: t).map fun x => D.str (SX.S x)) = rl at *
      simp [cfg_call, cfg_N, ev_var, ev_non, ev_bl, ev_int, ev_str, ev_glb, ev_bin, ev_neg, ev_no, ev_cmp, ev_chain, ev_isN, ev_and, ev_or, ev_ife, ev_call, ev_bi, ev_isi, ev_me, ev_repl, ev_lm, ev_idx, ev_slc, ev_rev, ev_tup, ev_lstF, ev_lstT, ev_dct, es_nil, es_cons, eo_none, eo_some, ss_nil, ss_cons, s_asg, s_asgc, s_par2, s_par3, s_aug, s_sset, s_xpr, s_ifs, s_ret, s_raise, s_try, it_of, it_rng1, eb_none, eb_some, b_ok, b_exc, t_ok, t_exc, r_some, RS.next, bindTg, List.getElem?_cons_zero, List.getElem?_cons_succ, List.set_cons_zero, List.set_cons_succ, i0, yn, ss_nil, sizeLine_eq]
    have loop := forL_op (w := ⟨t.map fun x => .str (SX.S x), none⟩) (f := fTurn (cfgN txt.prog M (k + 3)) (.nm 1) lawTurn) (e := fun x => .str (SX.S x)) (g := lawPart) rfl
      (fun dn env T => ∃ u1 u4 u5 u6 u7 u8 u9 u10 u11 u12 u13, env = ennv (.str z) u1 (.lst ((h :: t).map fun x => .str (SX.S x))) S.length u4 u5 u6 u7 u8 u9 u10 u11 u12 u13 ∧ T = S ++ [.lst (dn.map partD)]) .non (fun T => ∃ o, T = S ++ [o]) t [] _ _
      ⟨none, none, none, none, none, none, none, none, none, none, none, rfl, rfl⟩ (by
        rintro dn x hx hdn env T ⟨u1, u4, u5, u6, u7, u8, u9, u10, u11, u12, u13, rfl, rfl⟩
        have hxl := hmem x (List.mem_cons_of_mem _ hx)
        have := law_turn_ev (M := M) (k := k) (S := S) hM x (by omega) (dn.map partD) (by rw [List.length_map]; simp only [List.length_nil] at hdn; omega) (.str z) (.lst ((h :: t).map fun x => .str (SX.S x))) u1 u4 u5 u6 u7 u8 u9 u10 u11 u12 u13
        cases q : lawPart x with
        | none =>
          rw [q] at this
          obtain ⟨e1, this⟩ := this
          exact ⟨e1, _, this, _, rfl⟩
        | some b =>
          rw [q] at this
          obtain ⟨e1, ⟨v1, v4, v5, v6, v7, v8, v9, v10, v11, v12, v13, rfl⟩, this⟩ := this
          exact ⟨_, _, this, _, _, _, _, _, _, _, _, _, _, _, rfl, by rw [List.map_append]; rfl⟩)
    have gf : ∀ rs : RS, forL ⟨t.map fun x => .str (SX.S x), none⟩ (fTurn (cfgN txt.prog M (k + 3)) (.nm 1) lawTurn) (t.map fun x => .str (SX.S x)) (ennv (.str z) none (.lst ((h :: t).map fun x => .str (SX.S x))) S.length none none none none none none none none none none) (S ++ [.lst (([] : List (List Nat × Option Pap)).map partD)]) = rs →
        evS (cfgN txt.prog M (k + 3)) (.for_ (.nm 1) (.of (.slc (.var 2) (.some (.int 1)) .none)) lawTurn) (ennv (.str z) none (.lst ((h :: t).map fun x => .str (SX.S x))) S.length none none none none none none none none none none) (S ++ [.lst []]) = rs := by
      intro rs hrs
      rw [← hrs, s_for]
      have e : evIt (cfgN txt.prog M (k + 3)) (.of (.slc (.var 2) (.some (.int 1)) .none)) (ennv (.str z) none (.lst ((h :: t).map fun x => .str (SX.S x))) S.length none none none none none none none none none none) (S ++ [.lst []]) = .ok ⟨t.map fun x => .str (SX.S x), none⟩ (S ++ [.lst []]) := by
        unfold ennv
        generalize ((h :: t).map fun x => D.str (SX.S x)) = rl at *
        simp only [cfg_call, cfg_N, ev_var, ev_non, ev_bl, ev_int, ev_str, ev_glb, ev_bin, ev_neg, ev_no, ev_cmp, ev_chain, ev_isN, ev_and, ev_or, ev_ife, ev_call, ev_bi, ev_isi, ev_me, ev_repl, ev_lm, ev_idx, ev_slc, ev_rev, ev_tup, ev_lstF, ev_lstT, ev_dct, es_nil, es_cons, eo_none, eo_some, ss_nil, ss_cons, s_asg, s_asgc, s_par2, s_par3, s_aug, s_sset, s_xpr, s_ifs, s_ret, s_raise, s_try, it_of, it_rng1, eb_none, eb_some, b_ok, b_exc, t_ok, t_exc, r_some, RS.next, bindTg, List.getElem?_cons_zero, List.getElem?_cons_succ, List.set_cons_zero, List.set_cons_succ, ↓reduceIte, sl]
        rfl
      rw [e]; rfl
    cases hm : t.mapM lawPart with
    | none =>
      rw [hm] at loop
      obtain ⟨e1, S1, h1, o, rfl⟩ := loop
      show _ = R.ok D.non S
      refine call_gc (d := f38) (T := [o]) rfl rfl rfl hS ⟨e1, ?_⟩
      rw [f38_eq]
      exact (ss_go g1).trans ((ss_go g2).trans (ss_rt (gf _ h1)))
    | some ps =>
      rw [hm] at loop hD
      obtain ⟨e1, S1, h1, u1, u4, u5, u6, u7, u8, u9, u10, u11, u12, u13, rfl, rfl⟩ := loop
      rw [List.nil_append] at h1
      show _ = R.ok (ansD ⟨decide (h = wYes), ps⟩) S
      refine call_gc (d := f38) (T := [.lst (ps.map partD)]) rfl rfl (hD _ rfl) hS ⟨ennv (.str z) u1 (.lst ((h :: t).map fun x => .str (SX.S x))) S.length u4 u5 u6 u7 u8 u9 u10 u11 u12 u13, ?_⟩
      rw [f38_eq]
      refine (ss_go g1).trans ((ss_go g2).trans ((ss_go (gf _ h1)).trans (ss_rt ?_)))
      have htu : evBi .tuple (S ++ [.lst (ps.map partD)]) [.loc S.length] = some (.tup (ps.map partD)) := by
        show (asQ (S ++ [.lst (ps.map partD)]) (.loc S.length)).map D.tup = _
        have : asQ (S ++ [.lst (ps.map partD)]) (.loc S.length) = some (ps.map partD) := asL_last _ _
        rw [this]; rfl
      have e : ansD ⟨decide (h = wYes), ps⟩ = .tup [.bl (decide (h = wYes)), .tup (ps.map partD)] := rfl
      rw [e]
      unfold ennv
      generalize ((h :: t).map fun x => D.str (SX.S x)) = rl at *
      generalize ps.map partD = pl at *
      generalize S ++ [Ob.lst pl] = S1 at *
      simp [cfg_call, cfg_N, ev_var, ev_non, ev_bl, ev_int, ev_str, ev_glb, ev_bin, ev_neg, ev_no, ev_cmp, ev_chain, ev_isN, ev_and, ev_or, ev_ife, ev_call, ev_bi, ev_isi, ev_me, ev_repl, ev_lm, ev_idx, ev_slc, ev_rev, ev_tup, ev_lstF, ev_lstT, ev_dct, es_nil, es_cons, eo_none, eo_some, ss_nil, ss_cons, s_asg, s_asgc, s_par2, s_par3, s_aug, s_sset, s_xpr, s_ifs, s_ret, s_raise, s_try, it_of, it_rng1, eb_none, eb_some, b_ok, b_exc, t_ok, t_exc, r_some, RS.next, bindTg, List.getElem?_cons_zero, List.getElem?_cons_succ, List.set_cons_zero, List.set_cons_succ, i0, lY, qy, htu, sizeLine_eq]
end
end K54

set_option linter.all false
set_option maxRecDepth 100000
set_option maxHeartbeats 1000000
set_option exponentiation.threshold 20000
namespace K54
open PySem MP
/-! ### both readers read the same -/
def a999 (ns : List Nat) : Bool := ns.all fun n => decide (n ≤ 999)
theorem areNums_nums (ns : List Nat) : areNums (numsD ns) = a999 ns := by
  show (ns.map fun (n : Nat) => D.int n).all numOk = _
  rw [List.all_map]
  unfold a999
  congr 1
  funext n
  show (decide ((0 : Int) ≤ n) && decide ((n : Int) ≤ 999)) = _
  rw [decide_eq_true (by omega), Bool.true_and, decide_eq_decide]
  omega
theorem valOk_of {n d : Nat} (h : n < 10 ^ 4000 ∧ d < 10 ^ 4000) (h0 : 0 < d) (hg : Nat.gcd n d = 1) : valOk (.tup [.int n, .int d]) = true := by
  have t1 : decide ((0 : Int) < d) = true := decide_eq_true (by omega)
  have t2 : decide ((0 : Int) ≤ n) = true := decide_eq_true (by omega)
  have t3 : decide ((if (n : Int) < d then (d : Int) else n).natAbs < 10 ^ 4000) = true := by
    refine decide_eq_true ?_
    split
    · rw [Int.natAbs_natCast]; exact h.2
    · rw [Int.natAbs_natCast]; exact h.1
  have t4 : decide ((Nat.gcd (n : Int).natAbs (d : Int).natAbs : Int) = 1) = true := by
    rw [Int.natAbs_natCast, Int.natAbs_natCast, hg]; rfl
  show ((decide ((0 : Int) < d) && decide ((Nat.gcd (n : Int).natAbs (d : Int).natAbs : Int) = 1)) && decide ((0 : Int) ≤ n) && decide ((if (n : Int) < d then (d : Int) else n).natAbs < 10 ^ 4000)) = true
  rw [t1, t2, t3, t4]; rfl
theorem valsOk_of {vs : List (Option (Nat × Nat))} (h : ∀ v ∈ vs, ∀ n d, v = some (n, d) → (n < 10 ^ 4000 ∧ d < 10 ^ 4000) ∧ 0 < d ∧ Nat.gcd n d = 1) : valsOk (.tup (vs.map valD)) = true := by
  show ((vs.map valD).all fun d => isNon d || valOk d) = true
  rw [List.all_map, List.all_eq_true]
  intro v hv
  match v, h v hv with
  | none, _ => rfl
  | some (n, d), h =>
    obtain ⟨h1, h2, h3⟩ := h n d rfl
    show (false || valOk (.tup [.int n, .int d])) = true
    rw [valOk_of h1 h2 h3]; rfl
theorem paperOk_pap {q : Pap} (hw : (papers.any fun z => z.1 == q.w) = true) (hv : q.vs ≠ []) (h : ∀ v ∈ q.vs, ∀ n d, v = some (n, d) → (n < 10 ^ 4000 ∧ d < 10 ^ 4000) ∧ 0 < d ∧ Nat.gcd n d = 1) :
    paperOk (papD (some q)) = ((numsOk 1 q.ps) && (numsOk 1 q.rs)) := by
  have e1 : inPapers (.str q.w) = true := hw
  have e2 : neTup (.tup (q.vs.map valD)) = true := decide_eq_true (by rw [List.length_map]; exact List.length_pos_iff.mpr hv)
  have e3 := valsOk_of h
  have e4 : ∀ ns, neTup (numsD ns) = decide (1 ≤ ns.length) := fun ns => by
    show decide (0 < (ns.map fun (n : Nat) => D.int n).length) = _
    rw [List.length_map]
    rfl
  show (inPapers (.str q.w) && (neTup (.tup (q.vs.map valD)) && neTup (numsD q.ps) && neTup (numsD q.rs)) && (valsOk (.tup (q.vs.map valD)) && areNums (numsD q.ps) && areNums (numsD q.rs))) = _
  rw [e1, e2, e3, e4, e4, areNums_nums, areNums_nums]
  unfold numsOk a999
  cases decide (1 ≤ q.ps.length) <;> cases decide (1 ≤ q.rs.length) <;> simp
theorem partOk_part {p : List Nat × Option Pap} : partOk (partD p) = (a999 p.1 && paperOk (papD p.2)) := by
  show (areNums (numsD p.1) && _) = _
  rw [areNums_nums]
theorem lawNums0 (l : List Nat) : lawNums l 0 = (rdNumsP l).filter a999 := by
  unfold lawNums
  congr 1
theorem lawPart_eq (x : List Nat) : lawPart x = (rdPart x).filter fun p => partOk (partD p) := by
  unfold lawPart rdPart
  cases hp : TL.par [32] [] x with
  | none => rfl
  | some ab =>
    obtain ⟨s, t⟩ := ab
    dsimp only
    rw [lawNums0]
    cases hs : rdNumsP s with
    | none => rfl
    | some ns =>
      rw [Option.filter_some]
      cases h9 : a999 ns with
      | false =>
        rw [if_neg (by decide)]
        dsimp only
        cases hq : rdPap t with
        | none => rfl
        | some op =>
          dsimp only
          rw [Option.filter_some, partOk_part, h9] <;> rfl
      | true =>
        rw [if_pos rfl]
        dsimp only
        by_cases ht : t = [45]
        · rw [if_pos ht]
          have : rdPap t = some none := by unfold rdPap; rw [if_pos ht]
          rw [this]
          dsimp only
          rw [Option.filter_some, partOk_part, h9] <;> rfl
        · rw [if_neg ht]
          by_cases h4 : ∃ w v p r, TL.spl [58] 0 [] t = [w, v, p, r]
          · obtain ⟨w, v, p, r, e4⟩ := h4
            have hq : rdPap t = match wordF w, rdVals v, rdNumsP p, rdNumsP r with
              | some w, some vs, some ps, some rs => some (some ⟨w, vs, ps, rs⟩)
              | _, _, _, _ => none := by
              unfold rdPap
              rw [if_neg ht, e4] <;> rfl
            have ho := fun q => rdPap_ok (x := t) (q := q)
            rw [e4]
            unfold lawRows
            dsimp only
            rw [hq] at ho ⊢
            cases hw : wordF w with
            | none => rfl
            | some w' =>
              cases hv : rdVals v with
              | none => rfl
              | some vs =>
                unfold lawNums
                cases h1 : rdNumsP p with
                | none => rfl
                | some ps =>
                  cases h2 : rdNumsP r with
                  | none =>
                    dsimp only
                    cases hf : (some ps).filter (numsOk 1) <;> rfl
                  | some rs =>
                    rw [hw, hv, h1, h2] at ho
                    have ho := ho ⟨w', vs, ps, rs⟩ rfl
                    have e := paperOk_pap ho.w ho.v0 ho.vs
                    dsimp only at e ⊢
                    rw [Option.filter_some, Option.filter_some, Option.filter_some, partOk_part, h9]
                    dsimp only
                    rw [e, Bool.true_and]
                    cases numsOk 1 ps <;> cases numsOk 1 rs <;> rfl
          · rw [lawRows_no h4]
            have : rdPap t = none := by
              unfold rdPap
              rw [if_neg ht]
              split
              · rename_i q; exact absurd ⟨_, _, _, _, q⟩ h4
              · rfl
            rw [this]; rfl
theorem mapM_filter {α β : Type} (f : α → Option β) (q : β → Bool) : ∀ l : List α, (l.mapM f).filter (fun ys => ys.all q) = l.mapM fun a => (f a).filter q
  | [] => rfl
  | a :: l => by
    rw [List.mapM_cons, List.mapM_cons, ← mapM_filter f q l]
    cases f a with
    | none => rfl
    | some b =>
      show Option.filter _ ((l.mapM f).bind fun bs => some (b :: bs)) = ((some b).filter q).bind fun b => ((l.mapM f).filter fun ys => ys.all q).bind fun bs => some (b :: bs)
      rw [Option.filter_some]
      cases l.mapM f with
      | none => cases q b <;> rfl
      | some bs =>
        rw [Option.filter_some]
        show Option.filter _ (some (b :: bs)) = _
        rw [Option.filter_some, List.all_cons]
        cases q b <;> cases bs.all q <;> rfl
theorem answerOk_ans (a : Ans) : answerOk (ansD a) = a.parts.all fun p => partOk (partD p) := by
  show ((a.parts.map partD).all isPair && (a.parts.map partD).all partOk) = _
  rw [all_part, List.all_map]; rfl
theorem lawRead_eq (l : List Nat) : lawRead l = progRead l := by
  unfold progRead lawRead rdAns
  cases TL.spl [59, 32] 0 [] l with
  | nil => rfl
  | cons h t =>
    dsimp only
    split
    · have e : t.mapM lawPart = (t.mapM rdPart).filter fun ps => ps.all fun p => partOk (partD p) := by
        rw [mapM_filter]
        exact mapM_ext fun x _ => lawPart_eq x
      rw [e]
      cases t.mapM rdPart with
      | none => rfl
      | some ps =>
        rw [Option.filter_some]
        show _ = Option.filter _ (some _)
        rw [Option.filter_some, answerOk_ans]
        dsimp only
        cases (ps.all fun p => partOk (partD p)) <;> rfl
    · rfl
/-! ### what is written is read back -/
theorem nin_join {c : Nat} {s : List Nat} (hs : c ∉ s) : ∀ {l : List (List Nat)}, (∀ p ∈ l, c ∉ p) → c ∉ TL.joinL s l
  | [], _ => by simp [TL.joinL]
  | [p], h => h p (by simp)
  | p :: q :: r, h => by
    have ih := nin_join hs (l := q :: r) fun x hx => h x (List.mem_cons_of_mem _ hx)
    show c ∉ p ++ (s ++ TL.joinL s (q :: r))
    simp only [List.mem_append, not_or]
    exact ⟨h p List.mem_cons_self, hs, ih⟩
theorem num_head : ∀ (n : Nat), 0 < n → (TL.numL n).head? ≠ some 48 := by
  intro n
  induction n using Nat.strongRecOn with
  | ind n ih =>
    intro h0
    by_cases h : n < 10
    · rw [TL.numL_lt h]
      intro e
      have e := Option.some.inj e
      omega
    · rw [TL.numL_step (by omega), List.head?_append]
      have := ih (n / 10) (by omega) (by omega)
      cases q : (TL.numL (n / 10)).head? with
      | none => exact absurd (List.head?_eq_none_iff.mp q) (TL.numL_ne _)
      | some c =>
        rw [q] at this
        simpa using this
theorem rdNum_num (n : Nat) : rdNum (TL.numL n) = some n := by
  have h1 : (TL.numL n).all isDig = true := List.all_eq_true.mpr fun c hc => by
    have := TL.numL_digits n c hc
    unfold isDig
    rw [decide_eq_true this.1, decide_eq_true this.2]; rfl
  have h2 : (decide (TL.numL n = [48]) || !decide ((TL.numL n).head? = some 48)) = true := by
    by_cases h0 : n = 0
    · subst h0
      rw [TL.numL_lt (by decide)]; rfl
    · rw [decide_eq_false (num_head n (by omega))]; simp
  unfold rdNum goodNum
  rw [h1, h2, decide_eq_true (TL.numL_ne n), TL.numL_val]
  rfl
theorem rdNumP_num {n : Nat} (h : n < 10 ^ 4000) : rdNumP (TL.numL n) = some n := by rw [rdNumP_of (len4000 h), rdNum_num]
theorem small4000 {n : Nat} (h : n ≤ 999) : n < 10 ^ 4000 := Nat.lt_of_le_of_lt h (Nat.lt_of_lt_of_le (show 999 < 10 ^ 3 by decide) (Nat.pow_le_pow_right (by decide) (by decide)))
theorem mapM_back {α β : Type} {f : β → Option α} {g : α → β} : ∀ {l : List α}, (∀ a ∈ l, f (g a) = some a) → (l.map g).mapM f = some l
  | [], _ => rfl
  | a :: l, h => by
    rw [List.map_cons, List.mapM_cons, h a List.mem_cons_self, mapM_back fun x hx => h x (List.mem_cons_of_mem _ hx)]
    rfl
theorem nin_nums {c : Nat} (h : c < 44 ∨ 57 < c) (ns : List Nat) : c ∉ numsT ns := by
  unfold numsT
  split
  · simp; omega
  · refine nin_join (by simp; omega) fun p hp => ?_
    obtain ⟨n, hn, rfl⟩ := List.mem_map.mp hp
    exact TL.numL_free (by omega)
theorem rdNums_nums {ns : List Nat} (h : ∀ n ∈ ns, n ≤ 999) : rdNumsP (numsT ns) = some ns := by
  unfold rdNumsP numsT
  by_cases hn : ns = []
  · subst hn; rfl
  · rw [if_neg hn]
    have h45 : 45 ∉ TL.joinL [44] (ns.map TL.numL) := nin_join (by decide) fun p hp => by
      obtain ⟨n, hn, rfl⟩ := List.mem_map.mp hp
      exact TL.numL_free (by decide)
    rw [if_neg (fun e => h45 (by rw [e]; decide))]
    rw [SX.spl_join (c := 44) (sep := []) (by simpa using hn) fun p hp => by
      obtain ⟨n, hn, rfl⟩ := List.mem_map.mp hp
      exact TL.numL_free (by decide)]
    exact mapM_back fun n hn => rdNumP_num (small4000 (h n hn))
theorem nin_val {c : Nat} (h : c < 45 ∨ 57 < c) (v : Option (Nat × Nat)) : c ∉ valT v := by
  match v with
  | none => show c ∉ [45]; simp; omega
  | some (n, d) =>
    show c ∉ fracT n d
    unfold fracT
    split
    · exact TL.numL_free (by omega)
    · simp only [List.mem_append, List.mem_cons, not_or]
      exact ⟨TL.numL_free (by omega), by omega, TL.numL_free (by omega)⟩
theorem rdVal_val {v : Option (Nat × Nat)} (h : ∀ n d, v = some (n, d) → (n < 10 ^ 4000 ∧ d < 10 ^ 4000) ∧ 0 < d ∧ Nat.gcd n d = 1) : rdVal (valT v) = some v := by
  match v, h with
  | none, _ => rfl
  | some (n, d), h =>
    obtain ⟨h1, h2, h3⟩ := h n d rfl
    show rdVal (fracT n d) = _
    have n45 : ∀ m, (45 : Nat) ∉ TL.numL m := fun m => TL.numL_free (by decide)
    have n47 : ∀ m, (47 : Nat) ∉ TL.numL m := fun m => TL.numL_free (by decide)
    unfold rdVal fracT
    by_cases hd : d = 1
    · rw [if_pos hd, if_neg (fun e => n45 n (by rw [e]; decide)), TL.par_none1 (n47 n)]
      dsimp only
      rw [rdNumP_num h1.1, hd]; rfl
    · rw [if_neg hd]
      have hc : 45 ∉ TL.numL n ++ 47 :: TL.numL d := by
        simp only [List.mem_append, List.mem_cons, not_or]
        exact ⟨n45 n, by decide, n45 d⟩
      rw [if_neg (fun e => hc (by rw [e]; decide))]
      have := SX.par_head (c := 47) (sep := []) (p := TL.numL n) (TL.numL d) (n47 n)
      have e : TL.par [47] [] (TL.numL n ++ 47 :: TL.numL d) = some (TL.numL n, TL.numL d) := this
      rw [e]
      dsimp only
      rw [rdNumP_num h1.1, rdNumP_num h1.2]
      dsimp only
      rw [if_pos ⟨by omega, h3⟩]
theorem word_back {w : Str} (h : (papers.any fun q => q.1 == w) = true) : wordF (wordT w) = some w ∧ 58 ∉ wordT w ∧ 59 ∉ wordT w := by
  have : w = "most" ∨ w = "least" ∨ w = "gain most" ∨ w = "gain least" := by
    simp only [papers, List.any_cons, List.any_nil, Bool.or_false, Bool.or_eq_true, beq_iff_eq] at h
    rcases h with h | h | h | h <;> simp [← h]
  rcases this with h | h | h | h <;> subst h <;> exact ⟨by decide +kernel, by decide +kernel, by decide +kernel⟩
theorem gd_vals {q : Pap} (h : SmP q) (g : GdP q) : ∀ v ∈ q.vs, ∀ n d, v = some (n, d) → (n < 10 ^ 4000 ∧ d < 10 ^ 4000) ∧ 0 < d ∧ Nat.gcd n d = 1 := fun v hv n d e => ⟨h.vs v hv n d e, g.vs v hv n d e⟩
theorem rdPap_pap {q : Pap} (h : SmP q) (g : GdP q) : rdPap (papT (wordT q.w) q) = some (some q) := by
  obtain ⟨w1, w2, w3⟩ := word_back h.w
  have hv58 : 58 ∉ TL.joinL [44] (q.vs.map valT) := nin_join (by decide) fun p hp => by
    obtain ⟨v, hv, rfl⟩ := List.mem_map.mp hp
    exact nin_val (by decide) v
  have sp : TL.spl [58] 0 [] (papT (wordT q.w) q) = [wordT q.w, TL.joinL [44] (q.vs.map valT), numsT q.ps, numsT q.rs] := by
    refine SX.spl_join (c := 58) (sep := []) (by simp) fun p hp => ?_
    simp only [List.mem_cons, List.not_mem_nil, or_false] at hp
    rcases hp with rfl | rfl | rfl | rfl
    · exact w2
    · exact hv58
    · exact nin_nums (by decide) _
    · exact nin_nums (by decide) _
  have hne : papT (wordT q.w) q ≠ [45] := by
    intro e
    have : 58 ∈ papT (wordT q.w) q := by unfold papT; simp [TL.joinL]
    rw [e] at this
    revert this; decide
  have hvals : rdVals (TL.joinL [44] (q.vs.map valT)) = some q.vs := by
    unfold rdVals
    rw [SX.spl_join (c := 44) (sep := []) (by simpa using g.v0) fun p hp => by
      obtain ⟨v, hv, rfl⟩ := List.mem_map.mp hp
      exact nin_val (by decide) v]
    exact mapM_back fun v hv => rdVal_val (gd_vals h g v hv)
  unfold rdPap
  rw [if_neg hne, sp]
  dsimp only
  rw [w1, hvals, rdNums_nums h.ps, rdNums_nums h.rs]
theorem rdPart_part {p : List Nat × Option Pap} (hn : ∀ n ∈ p.1, n ≤ 999) (h : ∀ q, p.2 = some q → SmP q ∧ GdP q) : rdPart (partT p) = some p := by
  obtain ⟨ns, op⟩ := p
  have e : TL.par [32] [] (partT (ns, op)) = some (numsT ns, papOT op) := by
    have := SX.par_head (c := 32) (sep := []) (p := numsT ns) (papOT op) (nin_nums (by decide) ns)
    unfold partT
    simpa using this
  unfold rdPart
  rw [e]
  dsimp only
  rw [rdNums_nums hn]
  match op, h with
  | none, _ => rfl
  | some q, h =>
    obtain ⟨h1, h2⟩ := h q rfl
    have := rdPap_pap h1 h2
    show (match some ns, rdPap (papT (wordT q.w) q) with | some ns, some op => some (ns, op) | _, _ => none) = _
    rw [this]
theorem part59 {p : List Nat × Option Pap} (h : ∀ q, p.2 = some q → SmP q) : 59 ∉ partT p := by
  unfold partT
  simp only [List.mem_append, not_or]
  refine ⟨⟨nin_nums (by decide) _, by decide⟩, ?_⟩
  match q : p.2, h with
  | none, _ => show 59 ∉ [45]; decide
  | some z, h =>
    have h := h z rfl
    refine nin_join (by decide) fun x hx => ?_
    simp only [List.mem_cons, List.not_mem_nil, or_false] at hx
    rcases hx with rfl | rfl | rfl | rfl
    · exact (word_back h.w).2.2
    · refine nin_join (by decide) fun p hp => ?_
      obtain ⟨v, hv, rfl⟩ := List.mem_map.mp hp
      exact nin_val (by decide) v
    · exact nin_nums (by decide) _
    · exact nin_nums (by decide) _
theorem rdAns_ans {a : Ans} (h : GdA a) : rdAns (ansT a) = some a := by
  have sp : TL.spl [59, 32] 0 [] (ansT a) = ynT a.y :: a.parts.map partT := by
    refine SX.spl_join (c := 59) (sep := [32]) (by simp) fun p hp => ?_
    rcases List.mem_cons.mp hp with rfl | hp
    · cases a.y <;> decide
    · obtain ⟨v, hv, rfl⟩ := List.mem_map.mp hp
      exact part59 (h.sm.ps v hv)
  unfold rdAns
  rw [sp]
  dsimp only
  have e1 : isYN (ynT a.y) = true := by cases a.y <;> rfl
  have e2 : decide (ynT a.y = wYes) = a.y := by cases a.y <;> rfl
  rw [e1, if_pos rfl, e2, mapM_back fun p hp => rdPart_part (h.sm.ns p hp) fun q hq => ⟨h.sm.ps p hp q hq, h.gd p hp q hq⟩]
  rfl
theorem gd_form {a : Ans} (h : GdA a) : answerOk (ansD a) = true := by
  rw [answerOk_ans, List.all_eq_true]
  intro p hp
  have ha : ∀ ns : List Nat, (∀ n ∈ ns, n ≤ 999) → a999 ns = true := fun ns h => List.all_eq_true.mpr fun n hn => decide_eq_true (h n hn)
  have hb : ∀ ns : List Nat, ns ≠ [] → (∀ n ∈ ns, n ≤ 999) → numsOk 1 ns = true := fun ns h0 h => by
    unfold numsOk
    rw [decide_eq_true (show 1 ≤ ns.length from List.length_pos_iff.mpr h0)]
    exact ha ns h
  rw [partOk_part, ha _ (h.sm.ns p hp)]
  match q : p.2 with
  | none => rfl
  | some z =>
    have h1 := h.sm.ps p hp z q
    have h2 := h.gd p hp z q
    rw [paperOk_pap h1.w h2.v0 (gd_vals h1 h2), hb _ h2.p0 h1.ps, hb _ h2.r0 h1.rs]; rfl
theorem progRead_ans {a : Ans} (h : GdA a) : progRead (ansT a) = some a := by
  unfold progRead
  rw [rdAns_ans h, Option.filter_some, gd_form h]; rfl
end K54

set_option linter.all false
set_option maxRecDepth 100000
set_option maxHeartbeats 1000000
set_option exponentiation.threshold 20000
namespace K54
open PySem MP
theorem f23_eq : txt.prog.defs[23]? = some takeDef := rfl
theorem f22_eq : txt.prog.defs[22]? = some drawDef := rfl
/-- a sign at a drawn place -/
theorem atI_in {α : Type} {xs : List α} {v : Int} (h0 : 0 ≤ v) (h1 : v < xs.length) : ∃ d, d ∈ xs ∧ L2.atI xs v = some d := by
  obtain ⟨j, rfl⟩ : ∃ j : Nat, v = j := ⟨v.toNat, by omega⟩
  have hj : j < xs.length := by omega
  exact ⟨xs[j], List.getElem_mem hj, L2.atI_nat (List.getElem?_eq_getElem hj)⟩
section
variable {M k : Nat} {T : Sto}
theorem tk (dr : Draw) (hok : dr.ok) (m : Int) (h0 : 0 < m) (h1 : m < 1073741824) : ∃ (v : Int) (dr' : Draw), callN txt.prog M (k + 1) 23 [.loc 0, .int m] (.lst dr.L :: T) = .ok (.int v) (.lst dr'.L :: T) ∧ 0 ≤ v ∧ v < m ∧ dr'.ok := take_ev f23_eq dr hok m h0 h1
/-! ### numbers -/
theorem rangeOf_ev (n : Nat) (h : n ≤ 1000) : rangeOf [.int n] = some ⟨(List.range n).map fun (k : Nat) => .int k, none⟩ := by
  unfold rangeOf
  dsimp only
  rw [if_pos (by omega), Int.toNat_natCast]
theorem it_rng {c : Cfg} {e : E} {env : MP.Env} {S S0 : Sto} {n : Nat} (h : evE c e env S = .ok (.int n) S0) (hn : n ≤ 1000) : evIt c (.rng1 e) env S = .ok ⟨(List.range n).map fun (k : Nat) => .int k, none⟩ S0 := by
  rw [it_rng1, h, b_ok, rangeOf_ev n hn, r_some]
theorem ints_nums : ∀ {ys : List D}, (∀ y ∈ ys, ∃ n : Nat, y = .int n ∧ n ≤ 999) → ∃ ns : List Nat, ys = ns.map (fun (n : Nat) => D.int n) ∧ ∀ n ∈ ns, n ≤ 999
  | [], _ => ⟨[], rfl, fun n h => by cases h⟩
  | y :: ys, h => by
    obtain ⟨n, e, hn⟩ := h y List.mem_cons_self
    obtain ⟨ns, e2, h2⟩ := ints_nums (ys := ys) fun z hz => h z (List.mem_cons_of_mem _ hz)
    refine ⟨n :: ns, by rw [e, e2]; rfl, fun m hm => ?_⟩
    rcases List.mem_cons.mp hm with rfl | hm
    · exact hn
    · exact h2 m hm
theorem law_numbers_ev (dr : Draw) (hok : dr.ok) : ∃ (ns : List Nat) (dr' : Draw), callN txt.prog M (k + 2) 28 [.loc 0] (.lst dr.L :: T) = .ok (numsD ns) (.lst dr'.L :: T) ∧ dr'.ok ∧ ns.length ≤ 3 ∧ ∀ n ∈ ns, n ≤ 999 := by
  obtain ⟨v, dr1, h1, h2, h3, h4⟩ := tk (M := M) (k := k) (T := T) dr hok 4 (by decide) (by decide)
  obtain ⟨n, rfl⟩ : ∃ n : Nat, v = n := ⟨v.toNat, by omega⟩
  obtain ⟨ys, S1, g1, g2, g3, dr2, g4, rfl⟩ := comp_inv (c := cfgN txt.prog M (k + 1)) (env := [some (.loc 0), none]) (S := .lst dr.L :: T) (S0 := .lst dr1.L :: T) (elt := .call 23 (.cons (.var 0) (.cons (.idx (.lst false (.cons (.int 4) (.cons (.int 1000) .nil))) (.call 23 (.cons (.var 0) (.cons (.int 2) .nil)))) .nil))) (tg := .nm 1)
    (it := .rng1 (.call 23 (.cons (.var 0) (.cons (.int 4) .nil)))) (own := [1]) (ds := (List.range n).map fun (k : Nat) => .int k) (it_rng (by simp only [cfg_call, cfg_N, ev_var, ev_non, ev_bl, ev_int, ev_str, ev_glb, ev_bin, ev_neg, ev_no, ev_cmp, ev_chain, ev_isN, ev_and, ev_or, ev_ife, ev_call, ev_bi, ev_isi, ev_me, ev_repl, ev_lm, ev_idx, ev_slc, ev_rev, ev_tup, ev_lstF, ev_lstT, ev_dct, es_nil, es_cons, eo_none, eo_some, ss_nil, ss_cons, s_asg, s_asgc, s_par2, s_par3, s_aug, s_sset, s_xpr, s_ifs, s_ret, s_raise, s_try, it_of, it_rng1, eb_none, eb_some, b_ok, b_exc, t_ok, t_exc, r_some, RS.next, bindTg, List.getElem?_cons_zero, List.getElem?_cons_succ, List.set_cons_zero, List.set_cons_succ, ↓reduceIte, h1]) (by omega)) (by rw [List.length_map, List.length_range]; exact le_big (by omega))
    (fun S => ∃ dr : Draw, dr.ok ∧ S = .lst dr.L :: T) (fun y => ∃ n : Nat, y = .int n ∧ n ≤ 999) ⟨dr1, h4, rfl⟩ (by
      rintro d hd S ⟨dr, hok, rfl⟩
      obtain ⟨v, dr2, a1, a2, a3, a4⟩ := tk (M := M) (k := k) (T := T) dr hok 2 (by decide) (by decide)
      obtain ⟨m, hm1, hm2, hm3⟩ : ∃ m : Int, evIdx (.lst dr2.L :: T) (.lst [.int 4, .int 1000]) (.int v) = some (.int m) ∧ 0 < m ∧ m ≤ 1000 := by
        have : v = 0 ∨ v = 1 := by omega
        rcases this with rfl | rfl
        · exact ⟨4, rfl, by decide, by decide⟩
        · exact ⟨1000, rfl, by decide, by decide⟩
      obtain ⟨w, dr3, b1, b2, b3, b4⟩ := tk (M := M) (k := k) (T := T) dr2 a4 m hm2 (by omega)
      refine ⟨_, .int w, .lst dr3.L :: T, rfl, ?_, ⟨w.toNat, by rw [Int.toNat_of_nonneg b2], by omega⟩, ⟨dr3, b4, rfl⟩⟩
      simp [cfg_call, cfg_N, ev_var, ev_non, ev_bl, ev_int, ev_str, ev_glb, ev_bin, ev_neg, ev_no, ev_cmp, ev_chain, ev_isN, ev_and, ev_or, ev_ife, ev_call, ev_bi, ev_isi, ev_me, ev_repl, ev_lm, ev_idx, ev_slc, ev_rev, ev_tup, ev_lstF, ev_lstT, ev_dct, es_nil, es_cons, eo_none, eo_some, ss_nil, ss_cons, s_asg, s_asgc, s_par2, s_par3, s_aug, s_sset, s_xpr, s_ifs, s_ret, s_raise, s_try, it_of, it_rng1, eb_none, eb_some, b_ok, b_exc, t_ok, t_exc, r_some, RS.next, bindTg, List.getElem?_cons_zero, List.getElem?_cons_succ, List.set_cons_zero, List.set_cons_succ, wipeE, a1, hm1, b1, sizeLine_eq])
  obtain ⟨ns, rfl, hn⟩ := ints_nums g3
  refine ⟨ns, dr2, ?_, g4, ?_, hn⟩
  · refine call_same (d := f28) rfl rfl rfl ⟨[some (.loc 0), none], ?_⟩
    have htu : evBi .tuple (.lst dr2.L :: T) [.lst (ns.map fun (n : Nat) => D.int n)] = some (numsD ns) := rfl
    unfold f28 startE
    simp [cfg_call, cfg_N, ev_var, ev_non, ev_bl, ev_int, ev_str, ev_glb, ev_bin, ev_neg, ev_no, ev_cmp, ev_chain, ev_isN, ev_and, ev_or, ev_ife, ev_call, ev_bi, ev_isi, ev_me, ev_repl, ev_lm, ev_idx, ev_slc, ev_rev, ev_tup, ev_lstF, ev_lstT, ev_dct, es_nil, es_cons, eo_none, eo_some, ss_nil, ss_cons, s_asg, s_asgc, s_par2, s_par3, s_aug, s_sset, s_xpr, s_ifs, s_ret, s_raise, s_try, it_of, it_rng1, eb_none, eb_some, b_ok, b_exc, t_ok, t_exc, r_some, RS.next, bindTg, List.getElem?_cons_zero, List.getElem?_cons_succ, List.set_cons_zero, List.set_cons_succ, g1, htu]
  · rw [List.length_map, List.length_map, List.length_range] at g2
    omega
/-! ### an answer -/
structure TnP (q : Pap) : Prop where
  w : (papers.any fun z => z.1 == q.w) = true
  v0 : q.vs ≠ []
  vl : q.vs.length ≤ 3
  vs : ∀ v ∈ q.vs, ∀ n d, v = some (n, d) → n ≤ 10 ∧ d ≤ 10 ∧ 0 < d ∧ Nat.gcd n d = 1
  p0 : q.ps ≠ []
  pl : q.ps.length ≤ 4
  ps : ∀ n ∈ q.ps, n ≤ 999
  r0 : q.rs ≠ []
  rl : q.rs.length ≤ 4
  rs : ∀ n ∈ q.rs, n ≤ 999
structure TnR (p : List Nat × Option Pap) : Prop where
  nl : p.1.length ≤ 3
  ns : ∀ n ∈ p.1, n ≤ 999
  ps : ∀ q, p.2 = some q → TnP q
structure TnA (a : Ans) : Prop where
  l : a.parts.length ≤ 3
  r : ∀ p ∈ a.parts, TnR p
def goodV (v : Option (Nat × Nat)) : Prop := ∀ n d, v = some (n, d) → n ≤ 10 ∧ d ≤ 10 ∧ 0 < d ∧ Nat.gcd n d = 1
theorem of_each {α : Type} {f : α → D} {P : α → Prop} : ∀ {ys : List D}, (∀ y ∈ ys, ∃ a, y = f a ∧ P a) → ∃ l : List α, ys = l.map f ∧ ∀ a ∈ l, P a
  | [], _ => ⟨[], rfl, fun n h => by cases h⟩
  | y :: ys, h => by
    obtain ⟨n, e, hn⟩ := h y List.mem_cons_self
    obtain ⟨ns, e2, h2⟩ := of_each (ys := ys) fun z hz => h z (List.mem_cons_of_mem _ hz)
    refine ⟨n :: ns, by rw [e, e2]; rfl, fun m hm => ?_⟩
    rcases List.mem_cons.mp hm with rfl | hm
    · exact hn
    · exact h2 m hm
def valsC : E := .comp false (.ife (.cmp .eq (.call 23 (.cons (.var 0) (.cons (.int 5) .nil))) (.int 0)) .non (.call 27 (.cons (.call 23 (.cons (.var 0) (.cons (.int 9) .nil))) (.cons (.bin .add (.int 1) (.call 23 (.cons (.var 0) (.cons (.int 9) .nil)))) .nil)))) (.nm 5) (.rng1 (.bin .add (.int 1) (.call 23 (.cons (.var 0) (.cons (.int 3) .nil))))) .none [5]
theorem vals_draw (hM : 10 ^ 4100 ≤ M) (dr : Draw) (hok : dr.ok) (e1 e2 e3 e4 e5 : Option D) : ∃ (vs : List (Option (Nat × Nat))) (dr' : Draw), evE (cfgN txt.prog M (k + 2)) valsC [some (.loc 0), e1, e2, e3, e4, e5] (.lst dr.L :: T) = .ok (.lst (vs.map valD)) (.lst dr'.L :: T) ∧ dr'.ok ∧ vs ≠ [] ∧ vs.length ≤ 3 ∧ ∀ v ∈ vs, goodV v := by
  obtain ⟨v, dr1, h1, h2, h3, h4⟩ := tk (M := M) (k := k + 1) (T := T) dr hok 3 (by decide) (by decide)
  obtain ⟨n, rfl⟩ : ∃ n : Nat, v = n := ⟨v.toNat, by omega⟩
  have ha : evBin .add (.lst dr1.L :: T) (.int 1) (.int n) = some (.int ((n + 1 : Nat) : Int)) := by
    show some (D.int (1 + (n : Int))) = _
    rw [show (1 : Int) + n = ((n + 1 : Nat) : Int) by omega]
  obtain ⟨ys, S1, g1, g2, g3, dr2, g4, rfl⟩ := comp_inv (c := cfgN txt.prog M (k + 2)) (env := [some (.loc 0), e1, e2, e3, e4, e5]) (S := .lst dr.L :: T) (S0 := .lst dr1.L :: T) (elt := .ife (.cmp .eq (.call 23 (.cons (.var 0) (.cons (.int 5) .nil))) (.int 0)) .non (.call 27 (.cons (.call 23 (.cons (.var 0) (.cons (.int 9) .nil))) (.cons (.bin .add (.int 1) (.call 23 (.cons (.var 0) (.cons (.int 9) .nil)))) .nil)))) (tg := .nm 5)
    (it := .rng1 (.bin .add (.int 1) (.call 23 (.cons (.var 0) (.cons (.int 3) .nil))))) (own := [5]) (ds := (List.range (n + 1)).map fun (k : Nat) => .int k) (it_rng (n := n + 1) (by simp only [cfg_call, cfg_N, ev_var, ev_non, ev_bl, ev_int, ev_str, ev_glb, ev_bin, ev_neg, ev_no, ev_cmp, ev_chain, ev_isN, ev_and, ev_or, ev_ife, ev_call, ev_bi, ev_isi, ev_me, ev_repl, ev_lm, ev_idx, ev_slc, ev_rev, ev_tup, ev_lstF, ev_lstT, ev_dct, es_nil, es_cons, eo_none, eo_some, ss_nil, ss_cons, s_asg, s_asgc, s_par2, s_par3, s_aug, s_sset, s_xpr, s_ifs, s_ret, s_raise, s_try, it_of, it_rng1, eb_none, eb_some, b_ok, b_exc, t_ok, t_exc, r_some, RS.next, bindTg, List.getElem?_cons_zero, List.getElem?_cons_succ, List.set_cons_zero, List.set_cons_succ, ↓reduceIte, h1, ha]) (by omega)) (by rw [List.length_map, List.length_range]; exact le_big (by omega))
    (fun S => ∃ dr : Draw, dr.ok ∧ S = .lst dr.L :: T) (fun y => ∃ v, y = valD v ∧ goodV v) ⟨dr1, h4, rfl⟩ (by
      rintro d hd S ⟨dr, hok, rfl⟩
      obtain ⟨v, dr2, a1, a2, a3, a4⟩ := tk (M := M) (k := k + 1) (T := T) dr hok 5 (by decide) (by decide)
      have e0 := eveq (.lst dr2.L :: T) v 0
      by_cases hv : v = 0
      · rw [decide_eq_true hv] at e0
        refine ⟨_, .non, .lst dr2.L :: T, rfl, ?_, ⟨none, rfl, fun n d e => by cases e⟩, ⟨dr2, a4, rfl⟩⟩
        simp [cfg_call, cfg_N, ev_var, ev_non, ev_bl, ev_int, ev_str, ev_glb, ev_bin, ev_neg, ev_no, ev_cmp, ev_chain, ev_isN, ev_and, ev_or, ev_ife, ev_call, ev_bi, ev_isi, ev_me, ev_repl, ev_lm, ev_idx, ev_slc, ev_rev, ev_tup, ev_lstF, ev_lstT, ev_dct, es_nil, es_cons, eo_none, eo_some, ss_nil, ss_cons, s_asg, s_asgc, s_par2, s_par3, s_aug, s_sset, s_xpr, s_ifs, s_ret, s_raise, s_try, it_of, it_rng1, eb_none, eb_some, b_ok, b_exc, t_ok, t_exc, r_some, RS.next, bindTg, List.getElem?_cons_zero, List.getElem?_cons_succ, List.set_cons_zero, List.set_cons_succ, wipeE, a1, e0]
      · rw [decide_eq_false hv] at e0
        obtain ⟨x, dr3, b1, b2, b3, b4⟩ := tk (M := M) (k := k + 1) (T := T) dr2 a4 9 (by decide) (by decide)
        obtain ⟨y, dr4, c1, c2, c3, c4⟩ := tk (M := M) (k := k + 1) (T := T) dr3 b4 9 (by decide) (by decide)
        obtain ⟨x, rfl⟩ : ∃ n : Nat, x = n := ⟨x.toNat, by omega⟩
        obtain ⟨y, rfl⟩ : ∃ n : Nat, y = n := ⟨y.toNat, by omega⟩
        have ha : evBin .add (.lst dr4.L :: T) (.int 1) (.int y) = some (.int ((y + 1 : Nat) : Int)) := by
          show some (D.int (1 + (y : Int))) = _
          rw [show (1 : Int) + y = ((y + 1 : Nat) : Int) by omega]
        have hlow := law_lowest_ev (M := M) (k := k + 1) (S := .lst dr4.L :: T) hM x (y + 1) (by omega) (Nat.lt_of_lt_of_le (show y + 1 < 10 ^ 1 by omega) (Nat.pow_le_pow_right (by decide) (by decide)))
        have hg := Nat.gcd_pos_of_pos_right x (show 0 < y + 1 by omega)
        have hgd := Nat.gcd_div_gcd_div_gcd_of_pos_right (n := x) (m := y + 1) (by omega)
        refine ⟨_, .tup [.int ((x : Int) / (Nat.gcd x (y + 1) : Nat)), .int (((y + 1 : Nat) : Int) / (Nat.gcd x (y + 1) : Nat))], .lst dr4.L :: T, rfl, ?_, ⟨some (x / Nat.gcd x (y + 1), (y + 1) / Nat.gcd x (y + 1)), ?_, fun n d e => ?_⟩, ⟨dr4, c4, rfl⟩⟩
        · generalize (D.tup [.int ((x : Int) / (Nat.gcd x (y + 1) : Nat)), .int (((y + 1 : Nat) : Int) / (Nat.gcd x (y + 1) : Nat))]) = w at *
          have hlow : callN txt.prog M (k + 2) 27 [.int x, .int ((y + 1 : Nat) : Int)] (.lst dr4.L :: T) = .ok w (.lst dr4.L :: T) := hlow
          generalize ((y + 1 : Nat) : Int) = yy at *
          simp [cfg_call, cfg_N, ev_var, ev_non, ev_bl, ev_int, ev_str, ev_glb, ev_bin, ev_neg, ev_no, ev_cmp, ev_chain, ev_isN, ev_and, ev_or, ev_ife, ev_call, ev_bi, ev_isi, ev_me, ev_repl, ev_lm, ev_idx, ev_slc, ev_rev, ev_tup, ev_lstF, ev_lstT, ev_dct, es_nil, es_cons, eo_none, eo_some, ss_nil, ss_cons, s_asg, s_asgc, s_par2, s_par3, s_aug, s_sset, s_xpr, s_ifs, s_ret, s_raise, s_try, it_of, it_rng1, eb_none, eb_some, b_ok, b_exc, t_ok, t_exc, r_some, RS.next, bindTg, List.getElem?_cons_zero, List.getElem?_cons_succ, List.set_cons_zero, List.set_cons_succ, wipeE, a1, e0, b1, c1, ha, hlow]
        · rfl
        · cases e
          have h1 := Nat.div_le_self x (Nat.gcd x (y + 1))
          have h2 := Nat.div_le_self (y + 1) (Nat.gcd x (y + 1))
          exact ⟨by omega, by omega, Nat.div_pos (Nat.gcd_le_right x (by omega)) hg, hgd⟩)
  obtain ⟨vs, rfl, hv⟩ := of_each g3
  rw [List.length_map, List.length_map, List.length_range] at g2
  exact ⟨vs, dr2, g1, g4, fun e => by rw [e] at g2; simp at g2, by omega, hv⟩
def paperE : E := .tup (.cons (.idx (.lst false (.cons (.str "most") (.cons (.str "least") (.cons (.str "gain most") (.cons (.str "gain least") .nil))))) (.call 23 (.cons (.var 0) (.cons (.int 4) .nil)))) (.cons (.var 3) (.cons (.bin .add (.tup (.cons (.int 0) .nil)) (.call 28 (.cons (.var 0) .nil))) (.cons (.bin .add (.tup (.cons (.int 1) .nil)) (.call 28 (.cons (.var 0) .nil))) .nil))))
theorem add_nums (U : Sto) (m : Nat) (ns : List Nat) (h : ns.length ≤ 3) : evBin .add U (.tup [.int m]) (numsD ns) = some (numsD (m :: ns)) := by
  unfold numsD evBin
  dsimp only
  rw [if_pos (le_big (by simp only [List.length_cons, List.length_nil, List.length_map]; omega))]
  rfl
def ansTurn : Sts := (.cons (.asg (.nm 3) (.bi .tuple (.cons valsC .nil))) (.cons (.asg (.nm 4) paperE)
  (.cons (.xpr (.lm .append (.var 1) (.cons (.tup (.cons (.call 28 (.cons (.var 0) .nil)) (.cons (.ife (.cmp .gt (.call 23 (.cons (.var 0) (.cons (.int 4) .nil))) (.int 0)) (.var 4) .non) .nil))) .nil)))
  .nil)))
theorem f29_eq : f29 = ⟨1, 6, (.cons (.asg (.nm 1) (.lst true .nil)) (.cons (.for_ (.nm 2) (.rng1 (.call 23 (.cons (.var 0) (.cons (.int 4) .nil)))) ansTurn)
  (.cons (.ret (.tup (.cons (.cmp .eq (.call 23 (.cons (.var 0) (.cons (.int 2) .nil))) (.int 0)) (.cons (.bi .tuple (.cons (.var 1) .nil)) .nil)))) .nil)))⟩ := rfl
theorem ans_turn (hM : 10 ^ 4100 ≤ M) (dr : Draw) (hok : dr.ok) (xs : List D) (hx : xs.length ≤ 1000000) (d : D) (e2 e3 e4 e5 : Option D) : ∃ (p : List Nat × Option Pap) (dr' : Draw) (y2 y3 y4 : Option D), fTurn (cfgN txt.prog M (k + 2)) (.nm 2) ansTurn d [some (.loc 0), some (.loc 1), e2, e3, e4, e5] [.lst dr.L, .lst xs] = .ok .nx [some (.loc 0), some (.loc 1), y2, y3, y4, e5] [.lst dr'.L, .lst (xs ++ [partD p])] ∧ dr'.ok ∧ TnR p := by
  obtain ⟨vs, dr1, a1, a2, a3, a4, a5⟩ := vals_draw (M := M) (k := k) (T := [.lst xs]) hM dr hok (some (.loc 1)) (some d) e3 e4 e5
  obtain ⟨v, dr2, b1, b2, b3, b4⟩ := tk (M := M) (k := k + 1) (T := [.lst xs]) dr1 a2 4 (by decide) (by decide)
  obtain ⟨n1, dr3, c1, c2, c3, c4⟩ := law_numbers_ev (M := M) (k := k) (T := [.lst xs]) dr2 b4
  obtain ⟨n2, dr4, d1, d2, d3, d4⟩ := law_numbers_ev (M := M) (k := k) (T := [.lst xs]) dr3 c2
  obtain ⟨n3, dr5, f1, f2, f3, f4⟩ := law_numbers_ev (M := M) (k := k) (T := [.lst xs]) dr4 d2
  obtain ⟨u, dr6, g1, g2, g3, g4⟩ := tk (M := M) (k := k + 1) (T := [.lst xs]) dr5 f2 4 (by decide) (by decide)
  obtain ⟨w, hw1, hw2⟩ : ∃ w : Str, evIdx [.lst dr2.L, .lst xs] (.lst [.str "most", .str "least", .str "gain most", .str "gain least"]) (.int v) = some (.str w) ∧ (papers.any fun z => z.1 == w) = true := by
    have : v = 0 ∨ v = 1 ∨ v = 2 ∨ v = 3 := by omega
    rcases this with rfl | rfl | rfl | rfl
    · exact ⟨"most", rfl, by decide +kernel⟩
    · exact ⟨"least", rfl, by decide +kernel⟩
    · exact ⟨"gain most", rfl, by decide +kernel⟩
    · exact ⟨"gain least", rfl, by decide +kernel⟩
  have n1' := add_nums [.lst dr3.L, .lst xs] 0 n1 c3
  have n2' := add_nums [.lst dr4.L, .lst xs] 1 n2 d3
  have htu : evBi .tuple [.lst dr1.L, .lst xs] [.lst (vs.map valD)] = some (.tup (vs.map valD)) := rfl
  have hq : TnP ⟨w, vs, 0 :: n1, 1 :: n2⟩ := ⟨hw2, a3, a4, a5, by simp, by simp only [List.length_cons]; omega, fun n hn => by rcases List.mem_cons.mp hn with rfl | hn; decide; exact c4 n hn, by simp, by simp only [List.length_cons]; omega, fun n hn => by rcases List.mem_cons.mp hn with rfl | hn; decide; exact d4 n hn⟩
  have s1 : evS (cfgN txt.prog M (k + 2)) (.asg (.nm 3) (.bi .tuple (.cons valsC .nil))) [some (.loc 0), some (.loc 1), some d, e3, e4, e5] [.lst dr.L, .lst xs] = .ok .nx [some (.loc 0), some (.loc 1), some d, some (.tup (vs.map valD)), e4, e5] [.lst dr1.L, .lst xs] := by
    generalize vs.map valD = vl at *
    simp [cfg_call, cfg_N, ev_var, ev_non, ev_bl, ev_int, ev_str, ev_glb, ev_bin, ev_neg, ev_no, ev_cmp, ev_chain, ev_isN, ev_and, ev_or, ev_ife, ev_call, ev_bi, ev_isi, ev_me, ev_repl, ev_lm, ev_idx, ev_slc, ev_rev, ev_tup, ev_lstF, ev_lstT, ev_dct, es_nil, es_cons, eo_none, eo_some, ss_nil, ss_cons, s_asg, s_asgc, s_par2, s_par3, s_aug, s_sset, s_xpr, s_ifs, s_ret, s_raise, s_try, it_of, it_rng1, eb_none, eb_some, b_ok, b_exc, t_ok, t_exc, r_some, RS.next, bindTg, List.getElem?_cons_zero, List.getElem?_cons_succ, List.set_cons_zero, List.set_cons_succ, a1, htu]
  have s2 : evS (cfgN txt.prog M (k + 2)) (.asg (.nm 4) paperE) [some (.loc 0), some (.loc 1), some d, some (.tup (vs.map valD)), e4, e5] [.lst dr1.L, .lst xs] = .ok .nx [some (.loc 0), some (.loc 1), some d, some (.tup (vs.map valD)), some (papD (some ⟨w, vs, 0 :: n1, 1 :: n2⟩)), e5] [.lst dr4.L, .lst xs] := by
    have e : papD (some ⟨w, vs, 0 :: n1, 1 :: n2⟩) = .tup [.str w, .tup (vs.map valD), numsD (0 :: n1), numsD (1 :: n2)] := rfl
    rw [e]
    generalize vs.map valD = vl at *
    have n1' : evBin .add [.lst dr3.L, .lst xs] (.tup [.int 0]) (numsD n1) = _ := n1'
    have n2' : evBin .add [.lst dr4.L, .lst xs] (.tup [.int 1]) (numsD n2) = _ := n2'
    generalize numsD (0 :: n1) = z1 at *
    generalize numsD (1 :: n2) = z2 at *
    unfold paperE
    simp [cfg_call, cfg_N, ev_var, ev_non, ev_bl, ev_int, ev_str, ev_glb, ev_bin, ev_neg, ev_no, ev_cmp, ev_chain, ev_isN, ev_and, ev_or, ev_ife, ev_call, ev_bi, ev_isi, ev_me, ev_repl, ev_lm, ev_idx, ev_slc, ev_rev, ev_tup, ev_lstF, ev_lstT, ev_dct, es_nil, es_cons, eo_none, eo_some, ss_nil, ss_cons, s_asg, s_asgc, s_par2, s_par3, s_aug, s_sset, s_xpr, s_ifs, s_ret, s_raise, s_try, it_of, it_rng1, eb_none, eb_some, b_ok, b_exc, t_ok, t_exc, r_some, RS.next, bindTg, List.getElem?_cons_zero, List.getElem?_cons_succ, List.set_cons_zero, List.set_cons_succ, b1, hw1, c1, d1, n1', n2', sizeLine_eq]
  have ap := fun (D1 : List D) (x : D) => app_last [.lst D1] xs x hx
  have lo := fun (D1 : List D) => loc_last [.lst D1] xs
  have e0 := evgt [.lst dr6.L, .lst xs] u 0
  have hb : bindTg (.nm 2) [some (.loc 0), some (.loc 1), e2, e3, e4, e5] d = some [some (.loc 0), some (.loc 1), some d, e3, e4, e5] := rfl
  by_cases hu : 0 < u
  · rw [decide_eq_true hu] at e0
    refine ⟨(n3, some ⟨w, vs, 0 :: n1, 1 :: n2⟩), dr6, some d, some (.tup (vs.map valD)), some (papD (some ⟨w, vs, 0 :: n1, 1 :: n2⟩)), ?_, g4, ⟨f3, f4, fun q hq2 => by cases hq2; exact hq⟩⟩
    rw [fTurn_of hb]
    unfold ansTurn
    refine (ss_go s1).trans ((ss_go s2).trans ?_)
    have e : partD (n3, some ⟨w, vs, 0 :: n1, 1 :: n2⟩) = .tup [numsD n3, papD (some ⟨w, vs, 0 :: n1, 1 :: n2⟩)] := rfl
    rw [e]
    generalize papD (some ⟨w, vs, 0 :: n1, 1 :: n2⟩) = pd at *
    have ap : ∀ (D1 : List D) (x : D), evLm .append [.lst D1, .lst xs] (.loc 1) [x] = .ok .non [.lst D1, .lst (xs ++ [x])] := ap
    have lo : ∀ (D1 : List D), isLocD [.lst D1, .lst xs] (.loc 1) = true := lo
    simp [cfg_call, cfg_N, ev_var, ev_non, ev_bl, ev_int, ev_str, ev_glb, ev_bin, ev_neg, ev_no, ev_cmp, ev_chain, ev_isN, ev_and, ev_or, ev_ife, ev_call, ev_bi, ev_isi, ev_me, ev_repl, ev_lm, ev_idx, ev_slc, ev_rev, ev_tup, ev_lstF, ev_lstT, ev_dct, es_nil, es_cons, eo_none, eo_some, ss_nil, ss_cons, s_asg, s_asgc, s_par2, s_par3, s_aug, s_sset, s_xpr, s_ifs, s_ret, s_raise, s_try, it_of, it_rng1, eb_none, eb_some, b_ok, b_exc, t_ok, t_exc, r_some, RS.next, bindTg, List.getElem?_cons_zero, List.getElem?_cons_succ, List.set_cons_zero, List.set_cons_succ, f1, g1, e0, ap, lo, ss_nil, sizeLine_eq]
  · rw [decide_eq_false hu] at e0
    refine ⟨(n3, none), dr6, some d, some (.tup (vs.map valD)), some (papD (some ⟨w, vs, 0 :: n1, 1 :: n2⟩)), ?_, g4, ⟨f3, f4, fun q hq2 => by cases hq2⟩⟩
    rw [fTurn_of hb]
    unfold ansTurn
    refine (ss_go s1).trans ((ss_go s2).trans ?_)
    have e : partD (n3, none) = .tup [numsD n3, .non] := rfl
    rw [e]
    generalize papD (some ⟨w, vs, 0 :: n1, 1 :: n2⟩) = pd at *
    have ap : ∀ (D1 : List D) (x : D), evLm .append [.lst D1, .lst xs] (.loc 1) [x] = .ok .non [.lst D1, .lst (xs ++ [x])] := ap
    have lo : ∀ (D1 : List D), isLocD [.lst D1, .lst xs] (.loc 1) = true := lo
    simp [cfg_call, cfg_N, ev_var, ev_non, ev_bl, ev_int, ev_str, ev_glb, ev_bin, ev_neg, ev_no, ev_cmp, ev_chain, ev_isN, ev_and, ev_or, ev_ife, ev_call, ev_bi, ev_isi, ev_me, ev_repl, ev_lm, ev_idx, ev_slc, ev_rev, ev_tup, ev_lstF, ev_lstT, ev_dct, es_nil, es_cons, eo_none, eo_some, ss_nil, ss_cons, s_asg, s_asgc, s_par2, s_par3, s_aug, s_sset, s_xpr, s_ifs, s_ret, s_raise, s_try, it_of, it_rng1, eb_none, eb_some, b_ok, b_exc, t_ok, t_exc, r_some, RS.next, bindTg, List.getElem?_cons_zero, List.getElem?_cons_succ, List.set_cons_zero, List.set_cons_succ, f1, g1, e0, ap, lo, ss_nil, sizeLine_eq]
theorem draw_inf (dr : Draw) : Ob.inf 1 (.lst dr.L) = true := by
  have : ∀ l : List Int, D.infs 1 (l.map .int) = true := fun l => by
    induction l with
    | nil => rfl
    | cons x l ih => rw [List.map_cons]; unfold D.infs; rw [ih]; rfl
  have h : D.inf 1 (.lst (dr.cells.map .int)) = true := this dr.cells
  show (D.inf 1 (.lst (dr.cells.map .int)) && _) = true
  rw [h]; rfl
theorem infs_map {α : Type} (n : Nat) (f : α → D) : ∀ l : List α, (∀ a ∈ l, D.inf n (f a) = true) → D.infs n (l.map f) = true
  | [], _ => rfl
  | a :: l, h => by
    rw [List.map_cons]
    unfold D.infs
    rw [h a List.mem_cons_self, infs_map n f l fun x hx => h x (List.mem_cons_of_mem _ hx)]; rfl
theorem inf_nums (n : Nat) (ns : List Nat) : (numsD ns).inf n = true := infs_map n _ ns fun _ _ => rfl
theorem inf_val (n : Nat) (v : Option (Nat × Nat)) : (valD v).inf n = true := by
  match v with
  | none => rfl
  | some (a, b) => rfl
theorem inf_pap (n : Nat) (p : Option Pap) : (papD p).inf n = true := by
  match p with
  | none => rfl
  | some q =>
    show D.infs n [.str q.w, .tup (q.vs.map valD), numsD q.ps, numsD q.rs] = true
    unfold D.infs D.infs D.infs D.infs D.infs
    have : D.inf n (.tup (q.vs.map valD)) = true := infs_map n _ _ fun v _ => inf_val n v
    rw [this, inf_nums, inf_nums]; rfl
theorem inf_ans (n : Nat) (a : Ans) : (ansD a).inf n = true := by
  show D.infs n [.bl a.y, .tup (a.parts.map partD)] = true
  unfold D.infs D.infs D.infs
  have : D.inf n (.tup (a.parts.map partD)) = true := infs_map n _ _ fun p _ => by
    show D.infs n [numsD p.1, papD p.2] = true
    unfold D.infs D.infs D.infs
    rw [inf_nums, inf_pap]; rfl
  rw [this]; rfl
theorem law_answer_ev (hM : 10 ^ 4100 ≤ M) (dr : Draw) (hok : dr.ok) : ∃ (a : Ans) (dr' : Draw), callN txt.prog M (k + 3) 29 [.loc 0] [.lst dr.L] = .ok (ansD a) [.lst dr'.L] ∧ dr'.ok ∧ TnA a := by
  obtain ⟨v, dr1, h1, h2, h3, h4⟩ := tk (M := M) (k := k + 1) (T := [.lst []]) dr hok 4 (by decide) (by decide)
  obtain ⟨n, rfl⟩ : ∃ n : Nat, v = n := ⟨v.toNat, by omega⟩
  obtain ⟨e1, S1, g1, y2, y3, y4, y5, dr2, ps, rfl, rfl, g2, g3, g4⟩ := forL_ix (w := ⟨(List.range n).map fun (k : Nat) => .int k, none⟩) (f := fTurn (cfgN txt.prog M (k + 2)) (.nm 2) ansTurn) (e := fun (k : Nat) => D.int k) rfl
    (fun done env S => ∃ (y2 y3 y4 y5 : Option D) (dr : Draw) (ps : List (List Nat × Option Pap)), env = [some (.loc 0), some (.loc 1), y2, y3, y4, y5] ∧ S = [.lst dr.L, .lst (ps.map partD)] ∧ dr.ok ∧ ps.length = done.length ∧ ∀ p ∈ ps, TnR p) (List.range n) [] [some (.loc 0), some (.loc 1), none, none, none, none] [.lst dr1.L, .lst []]
    ⟨none, none, none, none, dr1, [], rfl, rfl, h4, rfl, fun p hp => by cases hp⟩ (by
      rintro dn a rest hsp env S ⟨y2, y3, y4, y5, dr, ps, rfl, rfl, hok, hl, hps⟩
      have hdl : dn.length ≤ n := by
        have := congrArg List.length hsp
        rw [List.nil_append, List.length_range, List.length_append] at this; omega
      obtain ⟨p, dr', z2, z3, z4, q1, q2, q3⟩ := ans_turn (M := M) (k := k) hM dr hok (ps.map partD) (by rw [List.length_map]; omega) (.int a) y2 y3 y4 y5
      refine ⟨_, _, q1, z2, z3, z4, y5, dr', ps ++ [p], rfl, by rw [List.map_append]; rfl, q2, by simp [hl], fun x hx => ?_⟩
      rcases List.mem_append.mp hx with hx | hx
      · exact hps x hx
      · rw [List.mem_singleton.mp hx]; exact q3)
  obtain ⟨u, dr3, f1, f2, f3, f4⟩ := tk (M := M) (k := k + 1) (T := [.lst (ps.map partD)]) dr2 g2 2 (by decide) (by decide)
  refine ⟨⟨decide (u = 0), ps⟩, dr3, ?_, f4, ⟨?_, g4⟩⟩
  · refine call_cut (d := f29) (S1 := [.lst dr3.L]) (T := [.lst (ps.map partD)]) rfl rfl rfl (inf_ans _ _) ?_ ⟨[some (.loc 0), some (.loc 1), y2, y3, y4, y5], ?_⟩
    · show (Ob.inf 1 (.lst dr3.L) && true) = true
      rw [draw_inf]; rfl
    · rw [f29_eq]
      refine (ss_go (env1 := [some (.loc 0), some (.loc 1), none, none, none, none]) (S1 := [.lst dr.L, .lst []]) (by simp [cfg_call, cfg_N, ev_var, ev_non, ev_bl, ev_int, ev_str, ev_glb, ev_bin, ev_neg, ev_no, ev_cmp, ev_chain, ev_isN, ev_and, ev_or, ev_ife, ev_call, ev_bi, ev_isi, ev_me, ev_repl, ev_lm, ev_idx, ev_slc, ev_rev, ev_tup, ev_lstF, ev_lstT, ev_dct, es_nil, es_cons, eo_none, eo_some, ss_nil, ss_cons, s_asg, s_asgc, s_par2, s_par3, s_aug, s_sset, s_xpr, s_ifs, s_ret, s_raise, s_try, it_of, it_rng1, eb_none, eb_some, b_ok, b_exc, t_ok, t_exc, r_some, RS.next, bindTg, List.getElem?_cons_zero, List.getElem?_cons_succ, List.set_cons_zero, List.set_cons_succ, startE, sizeLine_eq])).trans ((ss_go (env1 := [some (.loc 0), some (.loc 1), y2, y3, y4, y5]) (S1 := [.lst dr2.L, .lst (ps.map partD)]) ?_).trans ?_)
      · rw [s_for]
        have : evIt (cfgN txt.prog M (k + 2)) (.rng1 (.call 23 (.cons (.var 0) (.cons (.int 4) .nil)))) [some (.loc 0), some (.loc 1), none, none, none, none] [.lst dr.L, .lst []] = .ok ⟨(List.range n).map fun (k : Nat) => .int k, none⟩ [.lst dr1.L, .lst []] := it_rng (by simp only [cfg_call, cfg_N, ev_var, ev_non, ev_bl, ev_int, ev_str, ev_glb, ev_bin, ev_neg, ev_no, ev_cmp, ev_chain, ev_isN, ev_and, ev_or, ev_ife, ev_call, ev_bi, ev_isi, ev_me, ev_repl, ev_lm, ev_idx, ev_slc, ev_rev, ev_tup, ev_lstF, ev_lstT, ev_dct, es_nil, es_cons, eo_none, eo_some, ss_nil, ss_cons, s_asg, s_asgc, s_par2, s_par3, s_aug, s_sset, s_xpr, s_ifs, s_ret, s_raise, s_try, it_of, it_rng1, eb_none, eb_some, b_ok, b_exc, t_ok, t_exc, r_some, RS.next, bindTg, List.getElem?_cons_zero, List.getElem?_cons_succ, List.set_cons_zero, List.set_cons_succ, ↓reduceIte, h1]) (by omega)
        rw [this]
        exact g1
      · have e0 := eveq [.lst dr3.L, .lst (ps.map partD)] u 0
        have htu : evBi .tuple [.lst dr3.L, .lst (ps.map partD)] [.loc 1] = some (.tup (ps.map partD)) := by
          show (asQ [.lst dr3.L, .lst (ps.map partD)] (.loc 1)).map D.tup = _
          rfl
        have e : ansD ⟨decide (u = 0), ps⟩ = .tup [.bl (decide (u = 0)), .tup (ps.map partD)] := rfl
        rw [e]
        generalize ps.map partD = pl at *
        simp [cfg_call, cfg_N, ev_var, ev_non, ev_bl, ev_int, ev_str, ev_glb, ev_bin, ev_neg, ev_no, ev_cmp, ev_chain, ev_isN, ev_and, ev_or, ev_ife, ev_call, ev_bi, ev_isi, ev_me, ev_repl, ev_lm, ev_idx, ev_slc, ev_rev, ev_tup, ev_lstF, ev_lstT, ev_dct, es_nil, es_cons, eo_none, eo_some, ss_nil, ss_cons, s_asg, s_asgc, s_par2, s_par3, s_aug, s_sset, s_xpr, s_ifs, s_ret, s_raise, s_try, it_of, it_rng1, eb_none, eb_some, b_ok, b_exc, t_ok, t_exc, r_some, RS.next, bindTg, List.getElem?_cons_zero, List.getElem?_cons_succ, List.set_cons_zero, List.set_cons_succ, f1, e0, htu, sizeLine_eq]
  · show ps.length ≤ 3
    rw [g3, List.nil_append, List.length_range]
    omega
theorem tn_sm {a : Ans} (h : TnA a) : GdA a := by
  have b : ∀ n : Nat, n ≤ 10 → n < 10 ^ 4000 := fun n hn => small4000 (by omega)
  refine ⟨⟨by have := h.l; omega, fun p hp => by have := (h.r p hp).nl; omega, fun p hp => (h.r p hp).ns, fun p hp q hq => ?_⟩, fun p hp q hq => ?_⟩
  · have g := (h.r p hp).ps q hq
    exact ⟨g.w, by have := g.vl; omega, fun v hv n d e => ⟨b n (g.vs v hv n d e).1, b d (g.vs v hv n d e).2.1⟩, by have := g.pl; omega, g.ps, by have := g.rl; omega, g.rs⟩
  · have g := (h.r p hp).ps q hq
    exact ⟨g.v0, g.p0, g.r0, fun v hv n d e => (g.vs v hv n d e).2.2⟩
theorem tn_len {a : Ans} (h : TnA a) : (ansT a).length ≤ 500 := by
  have hn : ∀ ns : List Nat, ns.length ≤ 4 → (∀ n ∈ ns, n ≤ 999) → (numsT ns).length ≤ 20 := fun ns hl h => by
    unfold numsT
    split
    · decide
    · have h1 := joinL_len [44] (ns.map TL.numL)
      have h2 := sum_map TL.numL 3 ns fun n hn => numL3 (h n hn)
      rw [List.length_map] at h1
      simp only [List.length_cons, List.length_nil] at h1
      omega
  have hp : ∀ q, TnP q → (papT (wordT q.w) q).length ≤ 100 := fun q g => by
    have hw := (word_ok g.w).2
    have hv : (TL.joinL [44] (q.vs.map valT)).length ≤ 24 := by
      have h1 := joinL_len [44] (q.vs.map valT)
      have h2 := sum_map valT 7 q.vs fun v hv => by
        match v, g.vs v hv with
        | none, _ => decide
        | some (n, d), hg =>
          obtain ⟨h1, h2, _, _⟩ := hg n d rfl
          have l1 := numL3 (show n ≤ 999 by omega)
          have l2 := numL3 (show d ≤ 999 by omega)
          show (fracT n d).length ≤ 7
          unfold fracT
          split
          · omega
          · rw [List.length_append, List.length_cons]; omega
      rw [List.length_map] at h1
      simp only [List.length_cons, List.length_nil] at h1
      have := g.vl
      omega
    have h4 := hn q.ps g.pl g.ps
    have h5 := hn q.rs g.rl g.rs
    have h1 := joinL_len [58] [wordT q.w, TL.joinL [44] (q.vs.map valT), numsT q.ps, numsT q.rs]
    simp only [List.map_cons, List.map_nil, List.sum_cons, List.sum_nil, List.length_cons, List.length_nil] at h1
    unfold papT
    omega
  have hr : ∀ p ∈ a.parts, (partT p).length ≤ 125 := fun p hpp => by
    have g := h.r p hpp
    have h1 := hn p.1 (by have := g.nl; omega) g.ns
    unfold partT
    rw [List.length_append, List.length_append]
    match q : p.2 with
    | none => show _ + 1 + 1 ≤ _; omega
    | some z =>
      have := hp z (g.ps z q)
      show _ + 1 + (papT (wordT z.w) z).length ≤ _
      omega
  have h1 := joinL_len [59, 32] (ynT a.y :: a.parts.map partT)
  have h2 := sum_map partT 125 a.parts hr
  have h3 := yn_len a.y
  have := h.l
  rw [List.map_cons, List.sum_cons, List.length_cons, List.length_map] at h1
  simp only [List.length_cons, List.length_nil] at h1
  unfold ansT
  omega
end
end K54

set_option linter.all false
set_option maxRecDepth 100000
set_option maxHeartbeats 1000000
set_option exponentiation.threshold 20000
namespace K54
open PySem MP
/-! ### bent values -/
/-- values of at most j levels, sequences of at most n, small ints -/
def bdD (n : Nat) : Nat → D → Bool
  | _, .non => true
  | _, .bl _ => true
  | _, .int i => decide (i.natAbs ≤ 1000)
  | _, .str _ => true
  | j + 1, .tup ds => ds.all (bdD n j) && decide (ds.length ≤ n)
  | j + 1, .lst ds => ds.all (bdD n j) && decide (ds.length ≤ n)
  | _, _ => false
theorem bd_mono {n m : Nat} (h : n ≤ m) : ∀ (j : Nat) (d : D), bdD n j d = true → bdD m j d = true
  | 0, d, hd => by
    cases d <;> first | rfl | exact hd | (cases hd; done)
  | j + 1, d, hd => by
    cases d <;> first | rfl | exact hd | skip
    all_goals
      unfold bdD at hd ⊢
      rw [Bool.and_eq_true, decide_eq_true_eq] at hd ⊢
      exact ⟨List.all_eq_true.mpr fun x hx => bd_mono h j x (List.all_eq_true.mp hd.1 x hx), by omega⟩
theorem bd_tup {n j : Nat} {ds : List D} : bdD n (j + 1) (.tup ds) = (ds.all (bdD n j) && decide (ds.length ≤ n)) := by unfold bdD; rfl
theorem bd_lst {n j : Nat} {ds : List D} : bdD n (j + 1) (.lst ds) = (ds.all (bdD n j) && decide (ds.length ≤ n)) := by unfold bdD; rfl
theorem bd_up {n : Nat} : ∀ (j : Nat) (d : D), bdD n j d = true → bdD n (j + 1) d = true
  | 0, d, hd => by
    cases d <;> first | rfl | exact hd | (cases hd; done)
  | j + 1, d, hd => by
    cases d <;> first | rfl | exact hd | skip
    all_goals
      unfold bdD at hd ⊢
      rw [Bool.and_eq_true] at hd ⊢
      exact ⟨List.all_eq_true.mpr fun x hx => bd_up j x (List.all_eq_true.mp hd.1 x hx), hd.2⟩
theorem smDs_of : ∀ {ds : List D}, (∀ d ∈ ds, smD d = true) → smDs ds = true
  | [], _ => rfl
  | d :: ds, h => by
    unfold smDs
    rw [h d List.mem_cons_self, smDs_of fun x hx => h x (List.mem_cons_of_mem _ hx)]; rfl
theorem okDs_of : ∀ {ds : List D}, (∀ d ∈ ds, okD d = true) → okDs ds = true
  | [], _ => rfl
  | d :: ds, h => by
    unfold okDs
    rw [h d List.mem_cons_self, okDs_of fun x hx => h x (List.mem_cons_of_mem _ hx)]; rfl
theorem infs_of {n : Nat} : ∀ {ds : List D}, (∀ d ∈ ds, d.inf n = true) → D.infs n ds = true
  | [], _ => rfl
  | d :: ds, h => by
    unfold D.infs
    rw [h d List.mem_cons_self, infs_of fun x hx => h x (List.mem_cons_of_mem _ hx)]; rfl
theorem bdD_all {n : Nat} (hn : n ≤ 1000) : ∀ (j : Nat) (d : D), bdD n j d = true → smD d = true ∧ okD d = true ∧ ∀ m, d.inf m = true := by
  have hi : ∀ i : Int, i.natAbs ≤ 1000 → smD (.int i) = true ∧ okD (.int i) = true := fun i h => by
    have h4 : (1000 : Nat) < 10 ^ 4 := by decide
    exact ⟨decide_eq_true (Nat.lt_of_le_of_lt h (Nat.lt_of_lt_of_le h4 (Nat.pow_le_pow_right (by decide) (by decide)))), decide_eq_true (Nat.lt_of_le_of_lt h (Nat.lt_of_lt_of_le h4 (Nat.pow_le_pow_right (by decide) (by decide))))⟩
  intro j
  induction j with
  | zero =>
    intro d hd
    cases d <;> first
      | exact ⟨rfl, rfl, fun _ => rfl⟩
      | (cases hd; done)
      | exact ⟨(hi _ (of_decide_eq_true hd)).1, (hi _ (of_decide_eq_true hd)).2, fun _ => rfl⟩
  | succ j ih =>
    intro d hd
    cases d with
    | tup ds =>
      rw [bd_tup, Bool.and_eq_true, decide_eq_true_eq] at hd
      have h := fun x hx => ih x (List.all_eq_true.mp hd.1 x hx)
      refine ⟨?_, ?_, fun m => infs_of fun x hx => (h x hx).2.2 m⟩
      · unfold smD; rw [smDs_of fun x hx => (h x hx).1, decide_eq_true (by omega)]; rfl
      · unfold okD; rw [okDs_of fun x hx => (h x hx).2.1, decide_eq_true (by omega)]; rfl
    | lst ds =>
      rw [bd_lst, Bool.and_eq_true, decide_eq_true_eq] at hd
      have h := fun x hx => ih x (List.all_eq_true.mp hd.1 x hx)
      refine ⟨?_, ?_, fun m => infs_of fun x hx => (h x hx).2.2 m⟩
      · unfold smD; rw [smDs_of fun x hx => (h x hx).1, decide_eq_true (by omega)]; rfl
      · unfold okD; rw [okDs_of fun x hx => (h x hx).2.1, decide_eq_true (by omega)]; rfl
    | int i => exact ⟨(hi _ (of_decide_eq_true hd)).1, (hi _ (of_decide_eq_true hd)).2, fun _ => rfl⟩
    | scr _ => cases hd
    | loc _ => cases hd
    | dct _ => cases hd
    | _ => exact ⟨rfl, rfl, fun _ => rfl⟩
theorem cut_in {xs : List D} {lo hi : Option Int} {x : D} (h : x ∈ cutD xs lo hi) : x ∈ xs := List.mem_of_mem_drop (List.mem_of_mem_take h)
theorem cut_to (xs : List D) (i : Nat) : (cutD xs none (some (i : Int))).length ≤ i := by
  unfold cutD
  have : HT.sIx xs.length xs.length (some (i : Int)) = min i xs.length := HT.sIx_nat _ _ _
  rw [this, List.length_take]
  omega
theorem cut_from (xs : List D) (i : Nat) : (cutD xs (some ((i : Nat) : Int)) none).length ≤ xs.length - i := by
  unfold cutD
  have : HT.sIx xs.length 0 (some (i : Int)) = min i xs.length := HT.sIx_nat _ _ _
  rw [this, List.length_take, List.length_drop]
  omega
theorem cut_le (xs : List D) (lo hi : Option Int) : (cutD xs lo hi).length ≤ xs.length := by
  unfold cutD
  rw [List.length_take, List.length_drop]
  omega
theorem cut_last (xs : List D) : (cutD xs (some (-1)) none).length ≤ 1 := by
  unfold cutD
  have : HT.sIx xs.length 0 (some (-1)) = ((-1 : Int) + (xs.length : Int)).toNat := by
    show (if (-1 : Int) < 0 then ((-1 : Int) + (xs.length : Int)).toNat else min (-1 : Int).toNat xs.length) = _
    rw [if_pos (by decide)]
  rw [this, List.length_take, List.length_drop]
  omega
section
variable {M k : Nat}
theorem leaf_pick {n j : Nat} {xs : List D} (hx : xs.all (bdD n j) = true) (S : Sto) (v : Int) (h0 : 0 ≤ v) (h1 : v < xs.length) : ∃ d, evIdx S (.lst xs) (.int v) = some d ∧ bdD n j d = true := by
  obtain ⟨d, hd, e⟩ := atI_in h0 h1
  exact ⟨d, e, List.all_eq_true.mp hx d hd⟩
theorem bent_ev : ∀ (j : Nat) (d : D) (dr : Draw), dr.ok → bdD 4 j d = true → ∃ (d' : D) (dr' : Draw), callN txt.prog M (k + j + 2) 39 [.loc 0, d] [.lst dr.L] = .ok d' [.lst dr'.L] ∧ dr'.ok ∧ bdD 9 (j + 1) d' = true := by
  intro j
  induction j with
  | zero =>
    intro d dr hok hd
    have ty : isTy [.lst dr.L] d .tup = some false := by cases d <;> first | rfl | (cases hd; done)
    have go : ∀ (z : D) (dr' : Draw), (∃ env, evSs (cfgN txt.prog M (k + 0 + 1)) f39.body (startE f39 [.loc 0, d]) [.lst dr.L] = .ok (.rt z) env [.lst dr'.L]) → callN txt.prog M (k + 0 + 2) 39 [.loc 0, d] [.lst dr.L] = .ok z [.lst dr'.L] := fun z dr' h => call_same (d := f39) rfl rfl rfl h
    cases q : isStr d with
    | true =>
      obtain ⟨v, dr1, a1, a2, a3, a4⟩ := tk (M := M) (k := k + 0) (T := []) dr hok 5 (by decide) (by decide)
      obtain ⟨z, z1, z2⟩ := leaf_pick (n := 9) (j := 1) (xs := [.str "most", .str "least", .str "gain most", .str "gainmost", .non]) rfl [.lst dr1.L] v a2 (by simpa using a3)
      refine ⟨z, dr1, go _ _ ⟨[some (.loc 0), some d, none], ?_⟩, a4, z2⟩
      have ts : isTy [.lst dr.L] d .str = some true := by cases d <;> first | rfl | (cases q; done)
      simp [cfg_call, cfg_N, ev_var, ev_non, ev_bl, ev_int, ev_str, ev_glb, ev_bin, ev_neg, ev_no, ev_cmp, ev_chain, ev_isN, ev_and, ev_or, ev_ife, ev_call, ev_bi, ev_isi, ev_me, ev_repl, ev_lm, ev_idx, ev_slc, ev_rev, ev_tup, ev_lstF, ev_lstT, ev_dct, es_nil, es_cons, eo_none, eo_some, ss_nil, ss_cons, s_asg, s_asgc, s_par2, s_par3, s_aug, s_sset, s_xpr, s_ifs, s_ret, s_raise, s_try, it_of, it_rng1, eb_none, eb_some, b_ok, b_exc, t_ok, t_exc, r_some, RS.next, bindTg, List.getElem?_cons_zero, List.getElem?_cons_succ, List.set_cons_zero, List.set_cons_succ, f39, startE, ty, ts, a1, z1, ss_nil, sizeLine_eq]
    | false =>
      obtain ⟨v, dr1, a1, a2, a3, a4⟩ := tk (M := M) (k := k + 0) (T := []) dr hok 10 (by decide) (by decide)
      obtain ⟨z, z1, z2⟩ := leaf_pick (n := 9) (j := 1) (xs := [.int 0, .int 1, .int 1000, .int (-1), .non, .bl true, .bl false, .tup [.int 2, .int 4], .tup [.int 1, .int 0], .tup [.int 0, .int 1]]) (by decide) [.lst dr1.L] v a2 (by simpa using a3)
      refine ⟨z, dr1, go _ _ ⟨[some (.loc 0), some d, none], ?_⟩, a4, z2⟩
      have ts : isTy [.lst dr.L] d .str = some false := by cases d <;> first | rfl | (cases q; done) | (cases hd; done)
      simp [cfg_call, cfg_N, ev_var, ev_non, ev_bl, ev_int, ev_str, ev_glb, ev_bin, ev_neg, ev_no, ev_cmp, ev_chain, ev_isN, ev_and, ev_or, ev_ife, ev_call, ev_bi, ev_isi, ev_me, ev_repl, ev_lm, ev_idx, ev_slc, ev_rev, ev_tup, ev_lstF, ev_lstT, ev_dct, es_nil, es_cons, eo_none, eo_some, ss_nil, ss_cons, s_asg, s_asgc, s_par2, s_par3, s_aug, s_sset, s_xpr, s_ifs, s_ret, s_raise, s_try, it_of, it_rng1, eb_none, eb_some, b_ok, b_exc, t_ok, t_exc, r_some, RS.next, bindTg, List.getElem?_cons_zero, List.getElem?_cons_succ, List.set_cons_zero, List.set_cons_succ, f39, startE, ty, ts, a1, z1, evNeg, ss_nil, sizeLine_eq]
  | succ j ih =>
    intro d dr hok hd
    have go : ∀ (z : D) (dr' : Draw), (∃ env, evSs (cfgN txt.prog M (k + j + 2)) f39.body (startE f39 [.loc 0, d]) [.lst dr.L] = .ok (.rt z) env [.lst dr'.L]) → callN txt.prog M (k + (j + 1) + 2) 39 [.loc 0, d] [.lst dr.L] = .ok z [.lst dr'.L] := fun z dr' h => call_same (d := f39) rfl rfl rfl h
    by_cases ht : ∃ ds, d = .tup ds
    · obtain ⟨ds, rfl⟩ := ht
      rw [bd_tup, Bool.and_eq_true, decide_eq_true_eq] at hd
      have hall := List.all_eq_true.mp hd.1
      have h9 : ∀ x ∈ ds, bdD 9 (j + 1) x = true := fun x hx => bd_up j x (bd_mono (by decide) j x (hall x hx))
      have hln : evBi .len [.lst dr.L] [.tup ds] = some (.int ds.length) := rfl
      -- the lower half, from any draw
      have low : ∀ (dr1 : Draw), dr1.ok → ∃ (z : D) (dr' : Draw), evS (cfgN txt.prog M (k + j + 2)) (.ifs (.isi (.var 1) .tup) (.cons (.ret (.idx (.lst false (.cons (.bi .list (.cons (.var 1) .nil)) (.cons (.bin .add (.var 1) (.slc (.var 1) (.some (.neg (.int 1))) .none)) (.cons (.slc (.var 1) .none (.some (.neg (.int 1)))) (.cons (.rev (.var 1)) (.cons .non (.cons (.tup .nil) .nil))))))) (.call 23 (.cons (.var 0) (.cons (.int 6) .nil))))) .nil) .nil) [some (.loc 0), some (.tup ds), none] [.lst dr1.L] = .ok (.rt z) [some (.loc 0), some (.tup ds), none] [.lst dr'.L] ∧ dr'.ok ∧ bdD 9 (j + 1 + 1) z = true := by
        intro dr1 hok1
        obtain ⟨v, dr2, a1, a2, a3, a4⟩ := tk (M := M) (k := k + j + 1) (T := []) dr1 hok1 6 (by decide) (by decide)
        have c1 := cut_last ds
        have c2 := cut_le ds none (some (-1))
        have tb : ∀ es : List D, (∀ x ∈ es, x ∈ ds) → es.length ≤ 9 → bdD 9 (j + 1 + 1) (.tup es) = true := fun es h hl => by
          rw [bd_tup, List.all_eq_true.mpr fun x hx => h9 x (h x hx), decide_eq_true hl]; rfl
        have e1 : evBi .list [.lst dr1.L] [.tup ds] = some (.lst ds) := rfl
        have e2 : evSlc [.lst dr1.L] (.tup ds) (some (-1)) none = some (.tup (cutD ds (some (-1)) none)) := rfl
        have e3 : evBin .add [.lst dr1.L] (.tup ds) (.tup (cutD ds (some (-1)) none)) = some (.tup (ds ++ cutD ds (some (-1)) none)) := by
          unfold evBin
          dsimp only
          rw [if_pos (le_big (by omega))]
        have e4 : evSlc [.lst dr1.L] (.tup ds) none (some (-1)) = some (.tup (cutD ds none (some (-1)))) := rfl
        have e5 : evRev [.lst dr1.L] (.tup ds) = some (.tup ds.reverse) := rfl
        obtain ⟨z, z1, z2⟩ := leaf_pick (n := 9) (j := j + 1 + 1) (xs := [.lst ds, .tup (ds ++ cutD ds (some (-1)) none), .tup (cutD ds none (some (-1))), .tup ds.reverse, .non, .tup []]) (by
          rw [List.all_eq_true]
          intro x hx
          simp only [List.mem_cons, List.not_mem_nil, or_false] at hx
          rcases hx with rfl | rfl | rfl | rfl | rfl | rfl
          · rw [bd_lst, List.all_eq_true.mpr fun x hx => h9 x hx, decide_eq_true (by omega)]; rfl
          · refine tb _ (fun x hx => ?_) (by rw [List.length_append]; omega)
            rcases List.mem_append.mp hx with hx | hx
            · exact hx
            · exact cut_in hx
          · exact tb _ (fun x hx => cut_in hx) (by omega)
          · exact tb _ (fun x hx => List.mem_reverse.mp hx) (by rw [List.length_reverse]; omega)
          · rfl
          · exact tb [] (fun x hx => by cases hx) (by decide)) [.lst dr2.L] v a2 (by simpa using a3)
        refine ⟨z, dr2, ?_, a4, z2⟩
        simp [cfg_call, cfg_N, ev_var, ev_non, ev_bl, ev_int, ev_str, ev_glb, ev_bin, ev_neg, ev_no, ev_cmp, ev_chain, ev_isN, ev_and, ev_or, ev_ife, ev_call, ev_bi, ev_isi, ev_me, ev_repl, ev_lm, ev_idx, ev_slc, ev_rev, ev_tup, ev_lstF, ev_lstT, ev_dct, es_nil, es_cons, eo_none, eo_some, ss_nil, ss_cons, s_asg, s_asgc, s_par2, s_par3, s_aug, s_sset, s_xpr, s_ifs, s_ret, s_raise, s_try, it_of, it_rng1, eb_none, eb_some, b_ok, b_exc, t_ok, t_exc, r_some, RS.next, bindTg, List.getElem?_cons_zero, List.getElem?_cons_succ, List.set_cons_zero, List.set_cons_succ, isTy, e1, e2, e3, e4, e5, evNeg, a1, z1, ss_nil, sizeLine_eq]
      by_cases h0 : 0 < ds.length
      · obtain ⟨v, dr1, a1, a2, a3, a4⟩ := tk (M := M) (k := k + j + 1) (T := []) dr hok 6 (by decide) (by decide)
        have q0 := evgt [.lst dr.L] ds.length 0
        rw [decide_eq_true (by omega)] at q0
        have q1 := evgt [.lst dr1.L] v 0
        by_cases hv : 0 < v
        · rw [decide_eq_true hv] at q1
          have hln1 : evBi .len [.lst dr1.L] [.tup ds] = some (.int ds.length) := rfl
          obtain ⟨i, dr2, b1, b2, b3, b4⟩ := tk (M := M) (k := k + j + 1) (T := []) dr1 a4 ds.length (by omega) (by omega)
          obtain ⟨i, rfl⟩ : ∃ n : Nat, i = n := ⟨i.toNat, by omega⟩
          obtain ⟨x, hx, ex⟩ := atI_in (xs := ds) b2 b3
          have hix : evIdx [.lst dr2.L] (.tup ds) (.int i) = some x := ex
          obtain ⟨x', dr3, c1, c2, c3⟩ := ih x dr2 b4 (hall x hx)
          have s1 : evSlc [.lst dr2.L] (.tup ds) none (some (i : Int)) = some (.tup (cutD ds none (some (i : Int)))) := rfl
          have s2 : evSlc [.lst dr3.L] (.tup ds) (some ((i : Int) + 1)) none = some (.tup (cutD ds (some ((i : Int) + 1)) none)) := rfl
          have l1 := cut_to ds i
          have l2 := cut_from ds (i + 1)
          have l2 : (cutD ds (some ((i : Int) + 1)) none).length ≤ ds.length - (i + 1) := l2
          have d1 : evBin .add [.lst dr3.L] (.tup (cutD ds none (some (i : Int)))) (.tup [x']) = some (.tup (cutD ds none (some (i : Int)) ++ [x'])) := by
            unfold evBin
            dsimp only
            rw [if_pos (le_big (by simp only [List.length_cons, List.length_nil]; omega))]
          have d2 : evBin .add [.lst dr3.L] (.tup (cutD ds none (some (i : Int)) ++ [x'])) (.tup (cutD ds (some ((i : Int) + 1)) none)) = some (.tup (cutD ds none (some (i : Int)) ++ [x'] ++ cutD ds (some ((i : Int) + 1)) none)) := by
            unfold evBin
            dsimp only
            rw [if_pos (le_big (by simp only [List.length_append, List.length_cons, List.length_nil]; omega))]
          have ha : evBin .add [.lst dr3.L] (.int i) (.int 1) = some (.int ((i : Int) + 1)) := rfl
          refine ⟨.tup (cutD ds none (some (i : Int)) ++ [x'] ++ cutD ds (some ((i : Int) + 1)) none), dr3, go _ _ ⟨[some (.loc 0), some (.tup ds), some (.int i)], ?_⟩, c2, ?_⟩
          · generalize cutD ds none (some (i : Int)) = A at *
            generalize cutD ds (some ((i : Int) + 1)) none = B at *
            generalize A ++ [x'] ++ B = C at *
            generalize A ++ [x'] = A2 at *
            have e : evE (cfgN txt.prog M (k + j + 2)) (.and (.isi (.var 1) .tup) (.and (.cmp .gt (.bi .len (.cons (.var 1) .nil)) (.int 0)) (.cmp .gt (.call 23 (.cons (.var 0) (.cons (.int 6) .nil))) (.int 0)))) [some (.loc 0), some (.tup ds), none] [.lst dr.L] = .ok (.bl true) [.lst dr1.L] := by
              simp only [cfg_call, cfg_N, ev_var, ev_non, ev_bl, ev_int, ev_str, ev_glb, ev_bin, ev_neg, ev_no, ev_cmp, ev_chain, ev_isN, ev_and, ev_or, ev_ife, ev_call, ev_bi, ev_isi, ev_me, ev_repl, ev_lm, ev_idx, ev_slc, ev_rev, ev_tup, ev_lstF, ev_lstT, ev_dct, es_nil, es_cons, eo_none, eo_some, ss_nil, ss_cons, s_asg, s_asgc, s_par2, s_par3, s_aug, s_sset, s_xpr, s_ifs, s_ret, s_raise, s_try, it_of, it_rng1, eb_none, eb_some, b_ok, b_exc, t_ok, t_exc, r_some, RS.next, bindTg, List.getElem?_cons_zero, List.getElem?_cons_succ, List.set_cons_zero, List.set_cons_succ, ↓reduceIte, isTy, hln, q0, a1, q1]
            rw [show startE f39 [.loc 0, .tup ds] = [some (.loc 0), some (.tup ds), none] from rfl]
            unfold f39
            refine ss_rt ?_
            rw [s_ifs]
            have e : evE (cfgN txt.prog M (k + j + 2)) _ _ [.lst dr.L] = .ok (.bl true) [.lst dr1.L] := e
            refine (congrArg (fun r => R.toS _ r _) e).trans ?_
            rw [t_ok]
            simp [cfg_call, cfg_N, ev_var, ev_non, ev_bl, ev_int, ev_str, ev_glb, ev_bin, ev_neg, ev_no, ev_cmp, ev_chain, ev_isN, ev_and, ev_or, ev_ife, ev_call, ev_bi, ev_isi, ev_me, ev_repl, ev_lm, ev_idx, ev_slc, ev_rev, ev_tup, ev_lstF, ev_lstT, ev_dct, es_nil, es_cons, eo_none, eo_some, ss_nil, ss_cons, s_asg, s_asgc, s_par2, s_par3, s_aug, s_sset, s_xpr, s_ifs, s_ret, s_raise, s_try, it_of, it_rng1, eb_none, eb_some, b_ok, b_exc, t_ok, t_exc, r_some, RS.next, bindTg, List.getElem?_cons_zero, List.getElem?_cons_succ, List.set_cons_zero, List.set_cons_succ, hln1, b1, s1, hix, c1, d1, ha, s2, d2, sizeLine_eq]
          · rw [bd_tup, Bool.and_eq_true, decide_eq_true_eq]
            refine ⟨List.all_eq_true.mpr fun y hy => ?_, by simp only [List.length_append, List.length_cons, List.length_nil]; omega⟩
            rcases List.mem_append.mp hy with hy | hy
            · rcases List.mem_append.mp hy with hy | hy
              · exact h9 y (cut_in hy)
              · rw [List.mem_singleton.mp hy]; exact c3
            · exact h9 y (cut_in hy)
        · rw [decide_eq_false hv] at q1
          obtain ⟨z, dr2, y1, y2, y3⟩ := low dr1 a4
          refine ⟨z, dr2, go _ _ ⟨[some (.loc 0), some (.tup ds), none], ?_⟩, y2, y3⟩
          unfold f39 startE
          refine (ss_go (env1 := [some (.loc 0), some (.tup ds), none]) (S1 := [.lst dr1.L]) ?_).trans (ss_rt y1)
          have e : evE (cfgN txt.prog M (k + j + 2)) (.and (.isi (.var 1) .tup) (.and (.cmp .gt (.bi .len (.cons (.var 1) .nil)) (.int 0)) (.cmp .gt (.call 23 (.cons (.var 0) (.cons (.int 6) .nil))) (.int 0)))) [some (.loc 0), some (.tup ds), none] [.lst dr.L] = .ok (.bl false) [.lst dr1.L] := by
            simp only [cfg_call, cfg_N, ev_var, ev_non, ev_bl, ev_int, ev_str, ev_glb, ev_bin, ev_neg, ev_no, ev_cmp, ev_chain, ev_isN, ev_and, ev_or, ev_ife, ev_call, ev_bi, ev_isi, ev_me, ev_repl, ev_lm, ev_idx, ev_slc, ev_rev, ev_tup, ev_lstF, ev_lstT, ev_dct, es_nil, es_cons, eo_none, eo_some, ss_nil, ss_cons, s_asg, s_asgc, s_par2, s_par3, s_aug, s_sset, s_xpr, s_ifs, s_ret, s_raise, s_try, it_of, it_rng1, eb_none, eb_some, b_ok, b_exc, t_ok, t_exc, r_some, RS.next, bindTg, List.getElem?_cons_zero, List.getElem?_cons_succ, List.set_cons_zero, List.set_cons_succ, ↓reduceIte, isTy, hln, q0, a1, q1]
          rw [s_ifs]
          refine (congrArg (fun r => R.toS _ r _) e).trans ?_
          rw [t_ok]
          exact ss_nil
      · have q0 := evgt [.lst dr.L] ds.length 0
        rw [decide_eq_false (by omega)] at q0
        obtain ⟨z, dr2, y1, y2, y3⟩ := low dr hok
        refine ⟨z, dr2, go _ _ ⟨[some (.loc 0), some (.tup ds), none], ?_⟩, y2, y3⟩
        unfold f39 startE
        refine (ss_go (env1 := [some (.loc 0), some (.tup ds), none]) (S1 := [.lst dr.L]) ?_).trans (ss_rt y1)
        have e : evE (cfgN txt.prog M (k + j + 2)) (.and (.isi (.var 1) .tup) (.and (.cmp .gt (.bi .len (.cons (.var 1) .nil)) (.int 0)) (.cmp .gt (.call 23 (.cons (.var 0) (.cons (.int 6) .nil))) (.int 0)))) [some (.loc 0), some (.tup ds), none] [.lst dr.L] = .ok (.bl false) [.lst dr.L] := by
          simp only [cfg_call, cfg_N, ev_var, ev_non, ev_bl, ev_int, ev_str, ev_glb, ev_bin, ev_neg, ev_no, ev_cmp, ev_chain, ev_isN, ev_and, ev_or, ev_ife, ev_call, ev_bi, ev_isi, ev_me, ev_repl, ev_lm, ev_idx, ev_slc, ev_rev, ev_tup, ev_lstF, ev_lstT, ev_dct, es_nil, es_cons, eo_none, eo_some, ss_nil, ss_cons, s_asg, s_asgc, s_par2, s_par3, s_aug, s_sset, s_xpr, s_ifs, s_ret, s_raise, s_try, it_of, it_rng1, eb_none, eb_some, b_ok, b_exc, t_ok, t_exc, r_some, RS.next, bindTg, List.getElem?_cons_zero, List.getElem?_cons_succ, List.set_cons_zero, List.set_cons_succ, ↓reduceIte, isTy, hln, q0]
        rw [s_ifs]
        refine (congrArg (fun r => R.toS _ r _) e).trans ?_
        rw [t_ok]
        exact ss_nil
    · have ty : isTy [.lst dr.L] d .tup = some false := by cases d <;> first | rfl | (exact absurd ⟨_, rfl⟩ ht) | (cases hd; done)
      cases q : isStr d with
      | true =>
        obtain ⟨v, dr1, a1, a2, a3, a4⟩ := tk (M := M) (k := k + j + 1) (T := []) dr hok 5 (by decide) (by decide)
        obtain ⟨z, z1, z2⟩ := leaf_pick (n := 9) (j := j + 1 + 1) (xs := [.str "most", .str "least", .str "gain most", .str "gainmost", .non]) rfl [.lst dr1.L] v a2 (by simpa using a3)
        refine ⟨z, dr1, go _ _ ⟨[some (.loc 0), some d, none], ?_⟩, a4, z2⟩
        have ts : isTy [.lst dr.L] d .str = some true := by cases d <;> first | rfl | (cases q; done)
        simp [cfg_call, cfg_N, ev_var, ev_non, ev_bl, ev_int, ev_str, ev_glb, ev_bin, ev_neg, ev_no, ev_cmp, ev_chain, ev_isN, ev_and, ev_or, ev_ife, ev_call, ev_bi, ev_isi, ev_me, ev_repl, ev_lm, ev_idx, ev_slc, ev_rev, ev_tup, ev_lstF, ev_lstT, ev_dct, es_nil, es_cons, eo_none, eo_some, ss_nil, ss_cons, s_asg, s_asgc, s_par2, s_par3, s_aug, s_sset, s_xpr, s_ifs, s_ret, s_raise, s_try, it_of, it_rng1, eb_none, eb_some, b_ok, b_exc, t_ok, t_exc, r_some, RS.next, bindTg, List.getElem?_cons_zero, List.getElem?_cons_succ, List.set_cons_zero, List.set_cons_succ, f39, startE, ty, ts, a1, z1, ss_nil, sizeLine_eq]
      | false =>
        obtain ⟨v, dr1, a1, a2, a3, a4⟩ := tk (M := M) (k := k + j + 1) (T := []) dr hok 10 (by decide) (by decide)
        obtain ⟨z, z1, z2⟩ := leaf_pick (n := 9) (j := j + 1 + 1) (xs := [.int 0, .int 1, .int 1000, .int (-1), .non, .bl true, .bl false, .tup [.int 2, .int 4], .tup [.int 1, .int 0], .tup [.int 0, .int 1]]) rfl [.lst dr1.L] v a2 (by simpa using a3)
        refine ⟨z, dr1, go _ _ ⟨[some (.loc 0), some d, none], ?_⟩, a4, z2⟩
        have ts : isTy [.lst dr.L] d .str = some false := by cases d <;> first | rfl | (cases q; done) | (cases hd; done)
        simp [cfg_call, cfg_N, ev_var, ev_non, ev_bl, ev_int, ev_str, ev_glb, ev_bin, ev_neg, ev_no, ev_cmp, ev_chain, ev_isN, ev_and, ev_or, ev_ife, ev_call, ev_bi, ev_isi, ev_me, ev_repl, ev_lm, ev_idx, ev_slc, ev_rev, ev_tup, ev_lstF, ev_lstT, ev_dct, es_nil, es_cons, eo_none, eo_some, ss_nil, ss_cons, s_asg, s_asgc, s_par2, s_par3, s_aug, s_sset, s_xpr, s_ifs, s_ret, s_raise, s_try, it_of, it_rng1, eb_none, eb_some, b_ok, b_exc, t_ok, t_exc, r_some, RS.next, bindTg, List.getElem?_cons_zero, List.getElem?_cons_succ, List.set_cons_zero, List.set_cons_succ, f39, startE, ty, ts, a1, z1, evNeg, ss_nil, sizeLine_eq]
end
end K54

set_option linter.all false
set_option maxRecDepth 100000
set_option maxHeartbeats 1000000
set_option exponentiation.threshold 20000
namespace K54
open PySem MP
/-! ### the repr of what is read -/
def numsP (ns : List Nat) : PyData := .tuple (ns.map fun (n : Nat) => .int n)
def valP : Option (Nat × Nat) → PyData
  | none => .none
  | some (n, d) => .tuple [.int n, .int d]
def papP : Option Pap → PyData
  | none => .none
  | some q => .tuple [.str q.w, .tuple (q.vs.map valP), numsP q.ps, numsP q.rs]
def partP (p : List Nat × Option Pap) : PyData := .tuple [numsP p.1, papP p.2]
def ansP (a : Ans) : PyData := .tuple [.bool a.y, .tuple (a.parts.map partP)]
theorem toPs_map {α : Type} {f : α → D} {g : α → PyData} (h : ∀ a, toP (f a) = some (g a)) : ∀ l : List α, toPs (l.map f) = some (l.map g)
  | [] => rfl
  | a :: l => by
    rw [List.map_cons, List.map_cons]
    unfold toPs
    rw [h a, toPs_map h l]
theorem toP_tup {ds : List D} {ps : List PyData} (h : toPs ds = some ps) : toP (.tup ds) = some (.tuple ps) := by
  unfold toP; rw [h]; rfl
theorem toP_nums (ns : List Nat) : toP (numsD ns) = some (numsP ns) := toP_tup (toPs_map (fun _ => rfl) ns)
theorem toP_val (v : Option (Nat × Nat)) : toP (valD v) = some (valP v) := by
  match v with
  | none => rfl
  | some (n, d) => rfl
theorem toP_pap (p : Option Pap) : toP (papD p) = some (papP p) := by
  match p with
  | none => rfl
  | some q =>
    refine toP_tup ?_
    unfold toPs toPs toPs toPs toPs
    rw [toP_tup (toPs_map toP_val q.vs), toP_nums, toP_nums]
    rfl
theorem toP_part (p : List Nat × Option Pap) : toP (partD p) = some (partP p) := by
  refine toP_tup ?_
  unfold toPs toPs toPs
  rw [toP_nums, toP_pap]
theorem toP_ans (a : Ans) : toP (ansD a) = some (ansP a) := by
  refine toP_tup ?_
  unfold toPs toPs toPs
  rw [toP_tup (toPs_map toP_part a.parts)]
  rfl
/-! sizes -/
def sh (p : PyData) : Nat := p.shown.length
theorem shownAll_map : ∀ ps : List PyData, PyData.shownAll ps = ps.map PyData.shown
  | [] => rfl
  | p :: ps => by unfold PyData.shownAll; rw [shownAll_map ps]; rfl
theorem sh_tuple (ps : List PyData) : sh (.tuple ps) ≤ (ps.map sh).sum + 2 * ps.length + 3 := by
  unfold sh
  rw [PyData.shown]
  have h := tupleText_len_le (PyData.shownAll ps)
  rw [shownAll_map, List.map_map, List.length_map] at h
  rw [shownAll_map]
  exact h
theorem sh_nat (n : Nat) : sh (.int n) = (TL.numL n).length := by
  unfold sh
  rw [PyData.shown]
  have := SX.num_S n
  rw [this, SX.S_len]
theorem rdNum_sh {l : List Nat} {n : Nat} (h : rdNum l = some n) : sh (.int n) ≤ l.length := by
  have h1 := rdNum_lt h
  unfold rdNum at h
  split at h
  · rename_i g
    have : l ≠ [] := by
      intro e
      rw [e] at g
      exact absurd g (by decide)
    rw [sh_nat]
    exact TL.numL_len (List.length_pos_iff.mpr this) h1
  · cases h
theorem rdNumP_sh {l : List Nat} {n : Nat} (h : rdNumP l = some n) : sh (.int n) ≤ l.length := by
  unfold rdNumP at h
  split at h
  · exact rdNum_sh h
  · cases h
theorem mapM_sum {β : Type} {f : List Nat → Option β} {g : β → Nat} {c e : Nat} : ∀ {l : List (List Nat)} {ys : List β}, l.mapM f = some ys → (∀ a ∈ l, ∀ b, f a = some b → g b ≤ c * a.length + e) → (ys.map g).sum ≤ c * (l.map (·.length)).sum + e * l.length
  | [], ys, h, _ => by cases h; simp
  | a :: l, ys, h, hb => by
    rw [List.mapM_cons] at h
    cases q : f a with
    | none => rw [q] at h; cases h
    | some b =>
      rw [q] at h
      cases q2 : l.mapM f with
      | none => rw [q2] at h; cases h
      | some bs =>
        rw [q2] at h
        cases h
        have h1 := hb a List.mem_cons_self b q
        have h2 := mapM_sum (g := g) (c := c) (e := e) q2 fun x hx => hb x (List.mem_cons_of_mem _ hx)
        simp only [List.map_cons, List.sum_cons, List.length_cons, Nat.mul_add, Nat.mul_one]
        omega
theorem sh_nums {s ns : List Nat} (h : rdNumsP s = some ns) : sh (numsP ns) ≤ 3 * s.length + 5 := by
  have h1 := sh_tuple (ns.map fun (n : Nat) => .int n)
  have hl := (rdNums_ok h).1
  rw [List.length_map, List.map_map] at h1
  have h2 : (ns.map (sh ∘ fun (n : Nat) => PyData.int n)).sum ≤ s.length := by
    unfold rdNumsP at h
    split at h
    · cases h; simp
    · have := mapM_sum (g := sh ∘ fun (n : Nat) => PyData.int n) (c := 1) (e := 0) h fun a ha b hb => by
        have := rdNumP_sh hb
        show sh (.int b) ≤ _
        omega
      have := spl_sum [44] s 0 []
      simp only [List.length_nil] at this
      omega
  unfold numsP
  omega
theorem sh_val {x : List Nat} {v : Option (Nat × Nat)} (h : rdVal x = some v) : sh (valP v) ≤ 1 * x.length + 8 := by
  have two : ∀ n d : Nat, sh (valP (some (n, d))) ≤ sh (.int n) + sh (.int d) + 7 := fun n d => by
    have := sh_tuple [.int n, .int d]
    simp only [List.map_cons, List.map_nil, List.sum_cons, List.sum_nil, List.length_cons, List.length_nil] at this
    show sh (.tuple [.int n, .int d]) ≤ _
    omega
  unfold rdVal at h
  split at h
  · cases h
    have : sh (valP none) = 4 := by decide
    omega
  · split at h
    · cases hr : rdNumP x with
      | none => rw [hr] at h; cases h
      | some m =>
        rw [hr] at h
        cases h
        have h1 := two m 1
        have h2 := rdNumP_sh hr
        have h3 : sh (.int (1 : Nat)) = 1 := by decide +kernel
        show sh (valP (some (m, 1))) ≤ _
        omega
    · rename_i a b hp
      have hl := par_len hp
      simp only [List.length_nil, Nat.add_zero] at hl
      split at h
      · rename_i n d hn hd
        split at h
        · cases h
          have h1 := two n d
          have h2 := rdNumP_sh hn
          have h3 := rdNumP_sh hd
          omega
        · cases h
      · cases h
theorem sh_vals {v : List Nat} {vs : List (Option (Nat × Nat))} (h : rdVals v = some vs) : sh (.tuple (vs.map valP)) ≤ 11 * v.length + 13 := by
  have h1 := sh_tuple (vs.map valP)
  have hl := mapM_len h
  have hl2 := splL_len [44] v 0 []
  have h2 := mapM_sum (g := sh ∘ valP) (c := 1) (e := 8) h fun a ha b hb => sh_val hb
  have h3 := spl_sum [44] v 0 []
  simp only [List.length_nil] at h3
  rw [List.length_map, List.map_map] at h1
  omega
theorem sh_word {w : Str} (h : (papers.any fun q => q.1 == w) = true) : sh (.str w) ≤ 20 := by
  have : w = "most" ∨ w = "least" ∨ w = "gain most" ∨ w = "gain least" := by
    simp only [papers, List.any_cons, List.any_nil, Bool.or_false, Bool.or_eq_true, beq_iff_eq] at h
    rcases h with h | h | h | h <;> simp [← h]
  rcases this with h | h | h | h <;> subst h <;> decide +kernel
theorem sh_pap {t : List Nat} {p : Option Pap} (h : rdPap t = some p) : sh (papP p) ≤ 11 * t.length + 54 := by
  unfold rdPap at h
  split at h
  · cases h
    have : sh (papP none) = 4 := by decide
    omega
  split at h
  · rename_i w v p r hs
    split at h
    · rename_i w' vs ps rs hw hv hp hr
      cases h
      have hsum := spl_sum [58] t 0 []
      rw [hs] at hsum
      simp only [List.map_cons, List.map_nil, List.sum_cons, List.sum_nil, List.length_nil] at hsum
      have h1 := sh_tuple [.str w', .tuple (vs.map valP), numsP ps, numsP rs]
      have h2 := sh_word (wordF_in hw)
      have h3 := sh_vals hv
      have h4 := sh_nums hp
      have h5 := sh_nums hr
      simp only [List.map_cons, List.map_nil, List.sum_cons, List.sum_nil, List.length_cons, List.length_nil] at h1
      show sh (.tuple [.str w', .tuple (vs.map valP), numsP ps, numsP rs]) ≤ _
      omega
    · cases h
  · cases h
theorem sh_part {x : List Nat} {p : List Nat × Option Pap} (h : rdPart x = some p) : sh (partP p) ≤ 11 * x.length + 66 := by
  unfold rdPart at h
  split at h
  · cases h
  · rename_i s t hp
    have hl := par_len hp
    simp only [List.length_nil, Nat.add_zero] at hl
    split at h
    · rename_i ns op hn ho
      cases h
      have h1 := sh_tuple [numsP ns, papP op]
      have h2 := sh_nums hn
      have h3 := sh_pap ho
      simp only [List.map_cons, List.map_nil, List.sum_cons, List.sum_nil, List.length_cons, List.length_nil] at h1
      show sh (.tuple [numsP ns, papP op]) ≤ _
      omega
    · cases h
theorem sh_ans {l : List Nat} {a : Ans} (h : rdAns l = some a) : sh (ansP a) ≤ 79 * l.length + 83 := by
  unfold rdAns at h
  split at h
  · cases h
  · rename_i hd t hs
    split at h
    · cases hm : t.mapM rdPart with
      | none => rw [hm] at h; cases h
      | some ps =>
        rw [hm] at h
        cases h
        have l1 := splL_len [59, 32] l 0 []
        have l2 := spl_sum [59, 32] l 0 []
        rw [hs] at l1 l2
        simp only [List.map_cons, List.sum_cons, List.length_cons, List.length_nil] at l1 l2
        have l3 := mapM_len hm
        have h1 := mapM_sum (g := sh ∘ partP) (c := 11) (e := 66) hm fun a ha b hb => sh_part hb
        have h2 := sh_tuple (ps.map partP)
        rw [List.length_map, List.map_map] at h2
        have h3 := sh_tuple [.bool (decide (hd = wYes)), .tuple (ps.map partP)]
        simp only [List.map_cons, List.map_nil, List.sum_cons, List.sum_nil, List.length_cons, List.length_nil] at h3
        have h4 : ∀ b, sh (.bool b) ≤ 5 := fun b => by cases b <;> decide
        have h4 := h4 (decide (hd = wYes))
        show sh (.tuple [.bool (decide (hd = wYes)), .tuple (ps.map partP)]) ≤ _
        omega
    · cases h
theorem shOks_map {α : Type} {g : α → PyData} : ∀ {l : List α}, (∀ a ∈ l, shOk (g a) = true) → shOks (l.map g) = true
  | [], _ => rfl
  | a :: l, h => by
    rw [List.map_cons]
    unfold shOks
    rw [h a List.mem_cons_self, shOks_map fun x hx => h x (List.mem_cons_of_mem _ hx)]; rfl
theorem sho_nat {n : Nat} (h : n < 10 ^ 4000) : shOk (.int n) = true := decide_eq_true (by
  rw [Int.natAbs_natCast]
  exact Nat.lt_trans h (Nat.pow_lt_pow_right (by decide) (by decide)))
theorem sho_nums {ns : List Nat} (h : ∀ n ∈ ns, n < 10 ^ 4000) : shOk (numsP ns) = true := shOks_map fun n hn => sho_nat (h n hn)
theorem sho_ans {a : Ans} (h : RdOk a) : shOk (ansP a) = true := by
  show shOks [.bool a.y, .tuple (a.parts.map partP)] = true
  unfold shOks shOks shOks
  have : shOk (.tuple (a.parts.map partP)) = true := shOks_map fun p hp => by
    show shOks [numsP p.1, papP p.2] = true
    unfold shOks shOks shOks
    rw [sho_nums (h.n p hp).2]
    have : shOk (papP p.2) = true := by
      match q : p.2 with
      | none => rfl
      | some z =>
        obtain ⟨g1, g2, g3, g4⟩ := h.p p hp z q
        show shOks [.str z.w, .tuple (z.vs.map valP), numsP z.ps, numsP z.rs] = true
        unfold shOks shOks shOks shOks shOks
        rw [sho_nums g3.2, sho_nums g4.2]
        have : shOk (.tuple (z.vs.map valP)) = true := shOks_map fun v hv => by
          match v, g2 v hv with
          | none, _ => rfl
          | some (n, d), g =>
            obtain ⟨a1, a2⟩ := g n d rfl
            show shOks [.int n, .int d] = true
            unfold shOks shOks shOks
            rw [sho_nat a1, sho_nat a2]; rfl
        rw [this]; rfl
    rw [this]; rfl
  rw [this]; rfl
theorem dep_map {α : Type} {g : α → PyData} {b : Nat} : ∀ {l : List α}, (∀ a ∈ l, (g a).depth ≤ b) → PyData.depthAll (l.map g) ≤ b
  | [], _ => Nat.zero_le _
  | a :: l, h => by
    rw [List.map_cons]
    unfold PyData.depthAll
    have := h a List.mem_cons_self
    have := dep_map (l := l) fun x hx => h x (List.mem_cons_of_mem _ hx)
    omega
theorem dep_tup {ps : List PyData} {b : Nat} (h : PyData.depthAll ps ≤ b) : (PyData.tuple ps).depth ≤ b + 1 := by
  unfold PyData.depth; omega
theorem dep_nums (ns : List Nat) : (numsP ns).depth ≤ 1 := dep_tup (dep_map fun n _ => by simp [PyData.depth])
theorem dep_ans (a : Ans) : (ansP a).depth ≤ 40 := by
  have hv : ∀ v, (valP v).depth ≤ 1 := fun v => by
    match v with
    | none => simp [valP, PyData.depth]
    | some (n, d) => simp [valP, PyData.depth, PyData.depthAll]
  have hp : ∀ p, (papP p).depth ≤ 3 := fun p => by
    match p with
    | none => simp [papP, PyData.depth]
    | some q =>
      refine dep_tup ?_
      have h1 : (PyData.tuple (q.vs.map valP)).depth ≤ 2 := dep_tup (dep_map fun v _ => hv v)
      have h2 := dep_nums q.ps
      have h3 := dep_nums q.rs
      have h4 : (PyData.str q.w).depth = 0 := by simp [PyData.depth]
      unfold PyData.depthAll PyData.depthAll PyData.depthAll PyData.depthAll PyData.depthAll
      omega
  have hr : ∀ p, (partP p).depth ≤ 4 := fun p => by
    refine dep_tup ?_
    have h1 := hp p.2
    have h2 := dep_nums p.1
    unfold PyData.depthAll PyData.depthAll PyData.depthAll
    omega
  have h1 : (PyData.tuple (a.parts.map partP)).depth ≤ 5 := dep_tup (dep_map fun p _ => hr p)
  have h2 : (PyData.bool a.y).depth = 0 := by simp [PyData.depth]
  have : (ansP a).depth ≤ 6 := by
    refine dep_tup ?_
    unfold PyData.depthAll PyData.depthAll PyData.depthAll
    omega
  omega
theorem repr_ans {l : List Nat} {a : Ans} (hl : l.length ≤ 90000) (h : rdAns l = some a) (T : Sto) : evBi .repr T [ansD a] = some (.str (ansP a).shown) := by
  have t : toPS T (ansD a) = some (ansP a) := toP_ans a
  have h1 := sho_ans (rdAns_ok hl h)
  have h2 : (ansP a).shown.length ≤ 79 * l.length + 83 := sh_ans h
  have h3 := dep_ans a
  have : reprD T (ansD a) = some (ansP a).shown := by
    unfold reprD
    rw [t]
    dsimp only
    rw [if_pos ⟨h1, by rw [sizeLine_eq]; omega, h3⟩]
  unfold evBi
  dsimp only
  rw [this]; rfl
theorem repr_mal (T : Sto) : ∃ r, evBi .repr T [.str "<malformed>"] = some (.str r) := by
  have t : toPS T (.str "<malformed>") = some (.str "<malformed>") := rfl
  have h2 : (PyData.str "<malformed>").shown.length + 64 ≤ 1000000 := by decide +kernel
  refine ⟨(PyData.str "<malformed>").shown, ?_⟩
  have : reprD T (.str "<malformed>") = some (PyData.str "<malformed>").shown := by
    unfold reprD
    rw [t]
    dsimp only
    rw [if_pos ⟨rfl, Nat.le_trans h2 size_big, by simp [PyData.depth]⟩]
  unfold evBi
  dsimp only
  rw [this]; rfl
/-! ### told -/
section
variable {M k : Nat} {S : Sto}
def mal : D := .str "<malformed>"
theorem told1 {v : D} {o : Option D} (h : IsR 0 (callN txt.prog M k 21 [v] S) o S) : callN txt.prog M (k + 1) 40 [.int 1, v] S = .ok (o.getD mal) S := by
  refine call_ret (d := f40) rfl rfl ⟨[some (.int 1), some v], ?_⟩
  have e := eveq S 1 0
  cases o with
  | some d =>
    have h : _ = _ := h
    show _ = RS.ok (.rt d) _ S
    simp [cfg_call, cfg_N, ev_var, ev_non, ev_bl, ev_int, ev_str, ev_glb, ev_bin, ev_neg, ev_no, ev_cmp, ev_chain, ev_isN, ev_and, ev_or, ev_ife, ev_call, ev_bi, ev_isi, ev_me, ev_repl, ev_lm, ev_idx, ev_slc, ev_rev, ev_tup, ev_lstF, ev_lstT, ev_dct, es_nil, es_cons, eo_none, eo_some, ss_nil, ss_cons, s_asg, s_asgc, s_par2, s_par3, s_aug, s_sset, s_xpr, s_ifs, s_ret, s_raise, s_try, it_of, it_rng1, eb_none, eb_some, b_ok, b_exc, t_ok, t_exc, r_some, RS.next, bindTg, List.getElem?_cons_zero, List.getElem?_cons_succ, List.set_cons_zero, List.set_cons_succ, f40, startE, e, h]
  | none =>
    obtain ⟨m, h⟩ := h
    show _ = RS.ok (.rt (.str "<malformed>")) _ S
    simp [cfg_call, cfg_N, ev_var, ev_non, ev_bl, ev_int, ev_str, ev_glb, ev_bin, ev_neg, ev_no, ev_cmp, ev_chain, ev_isN, ev_and, ev_or, ev_ife, ev_call, ev_bi, ev_isi, ev_me, ev_repl, ev_lm, ev_idx, ev_slc, ev_rev, ev_tup, ev_lstF, ev_lstT, ev_dct, es_nil, es_cons, eo_none, eo_some, ss_nil, ss_cons, s_asg, s_asgc, s_par2, s_par3, s_aug, s_sset, s_xpr, s_ifs, s_ret, s_raise, s_try, it_of, it_rng1, eb_none, eb_some, b_ok, b_exc, t_ok, t_exc, r_some, RS.next, bindTg, List.getElem?_cons_zero, List.getElem?_cons_succ, List.set_cons_zero, List.set_cons_succ, f40, startE, e, h]
theorem told0 {v : D} {o : Option D} (h : IsR 0 (callN txt.prog M k 15 [v] S) o S) : callN txt.prog M (k + 1) 40 [.int 0, v] S = .ok (o.getD mal) S := by
  refine call_ret (d := f40) rfl rfl ⟨[some (.int 0), some v], ?_⟩
  have e := eveq S 0 0
  cases o with
  | some d =>
    have h : _ = _ := h
    show _ = RS.ok (.rt d) _ S
    simp [cfg_call, cfg_N, ev_var, ev_non, ev_bl, ev_int, ev_str, ev_glb, ev_bin, ev_neg, ev_no, ev_cmp, ev_chain, ev_isN, ev_and, ev_or, ev_ife, ev_call, ev_bi, ev_isi, ev_me, ev_repl, ev_lm, ev_idx, ev_slc, ev_rev, ev_tup, ev_lstF, ev_lstT, ev_dct, es_nil, es_cons, eo_none, eo_some, ss_nil, ss_cons, s_asg, s_asgc, s_par2, s_par3, s_aug, s_sset, s_xpr, s_ifs, s_ret, s_raise, s_try, it_of, it_rng1, eb_none, eb_some, b_ok, b_exc, t_ok, t_exc, r_some, RS.next, bindTg, List.getElem?_cons_zero, List.getElem?_cons_succ, List.set_cons_zero, List.set_cons_succ, f40, startE, e, h]
  | none =>
    obtain ⟨m, h⟩ := h
    show _ = RS.ok (.rt (.str "<malformed>")) _ S
    simp [cfg_call, cfg_N, ev_var, ev_non, ev_bl, ev_int, ev_str, ev_glb, ev_bin, ev_neg, ev_no, ev_cmp, ev_chain, ev_isN, ev_and, ev_or, ev_ife, ev_call, ev_bi, ev_isi, ev_me, ev_repl, ev_lm, ev_idx, ev_slc, ev_rev, ev_tup, ev_lstF, ev_lstT, ev_dct, es_nil, es_cons, eo_none, eo_some, ss_nil, ss_cons, s_asg, s_asgc, s_par2, s_par3, s_aug, s_sset, s_xpr, s_ifs, s_ret, s_raise, s_try, it_of, it_rng1, eb_none, eb_some, b_ok, b_exc, t_ok, t_exc, r_some, RS.next, bindTg, List.getElem?_cons_zero, List.getElem?_cons_succ, List.set_cons_zero, List.set_cons_succ, f40, startE, e, h]
theorem evbb (T : Sto) (a b : Bool) : evCmp .eq T (.bl a) (.bl b) = some (a == b) := by cases a <;> cases b <;> rfl
theorem says_ev (a b : Bool) : callN txt.prog M (k + 1) 24 [.bl a, .bl b] S = .ok (.bl (a == b)) S := by
  refine call_ret (d := f24) rfl rfl ⟨[some (.bl a), some (.bl b)], ?_⟩
  have e := evbb S a b
  simp [cfg_call, cfg_N, ev_var, ev_non, ev_bl, ev_int, ev_str, ev_glb, ev_bin, ev_neg, ev_no, ev_cmp, ev_chain, ev_isN, ev_and, ev_or, ev_ife, ev_call, ev_bi, ev_isi, ev_me, ev_repl, ev_lm, ev_idx, ev_slc, ev_rev, ev_tup, ev_lstF, ev_lstT, ev_dct, es_nil, es_cons, eo_none, eo_some, ss_nil, ss_cons, s_asg, s_asgc, s_par2, s_par3, s_aug, s_sset, s_xpr, s_ifs, s_ret, s_raise, s_try, it_of, it_rng1, eb_none, eb_some, b_ok, b_exc, t_ok, t_exc, r_some, RS.next, bindTg, List.getElem?_cons_zero, List.getElem?_cons_succ, List.set_cons_zero, List.set_cons_succ, f24, startE, isTy, e]
theorem ne_self (T : Sto) (r : Str) : evCmp .ne T (.str r) (.str r) = some false := by
  show (evEq T (.str r) (.str r)).map _ = _
  unfold evEq
  simp
/-! ### what has the form of an answer is one -/
theorem numsD_of {d : D} (h : areNums d = true) : ∃ ns : List Nat, d = numsD ns ∧ ∀ n ∈ ns, n ≤ 999 := by
  cases d with
  | tup ds =>
    have h : ds.all numOk = true := h
    obtain ⟨ns, e, hn⟩ := ints_nums (ys := ds) fun y hy => by
      have := List.all_eq_true.mp h y hy
      cases y <;> try (cases this; done)
      rename_i i
      have : (decide (0 ≤ i) && decide (i ≤ 999)) = true := this
      rw [Bool.and_eq_true, decide_eq_true_eq, decide_eq_true_eq] at this
      exact ⟨i.toNat, by rw [Int.toNat_of_nonneg this.1], by omega⟩
    exact ⟨ns, by rw [e]; rfl, hn⟩
  | _ => cases h
theorem valD_of {d : D} (h : (isNon d || valOk d) = true) : ∃ v, d = valD v ∧ ∀ n d, v = some (n, d) → n < 10 ^ 4000 ∧ d < 10 ^ 4000 := by
  by_cases h0 : isNon d = true
  · cases d <;> try (cases h0; done)
    exact ⟨none, rfl, fun n d e => by cases e⟩
  · rw [(Bool.not_eq_true _).mp h0, Bool.false_or] at h
    unfold valOk at h
    split at h
    · rename_i a b
      rw [Bool.and_eq_true, Bool.and_eq_true, decide_eq_true_eq] at h
      obtain ⟨⟨h1, h2⟩, h3⟩ := h
      have h1 : (decide (0 < b) && decide ((Nat.gcd a.natAbs b.natAbs : Int) = 1)) = true := h1
      rw [Bool.and_eq_true, decide_eq_true_eq] at h1
      have h3 := of_decide_eq_true h3
      refine ⟨some (a.toNat, b.toNat), by show _ = D.tup [.int a.toNat, .int b.toNat]; rw [Int.toNat_of_nonneg h2, Int.toNat_of_nonneg (by omega)], fun n d e => ?_⟩
      cases e
      split at h3
      · have e1 : b.toNat = b.natAbs := by omega
        have e2 : a.toNat ≤ b.natAbs := by omega
        rw [e1]
        exact ⟨Nat.lt_of_le_of_lt e2 h3, h3⟩
      · have e1 : a.toNat = a.natAbs := by omega
        have e2 : b.toNat ≤ a.natAbs := by omega
        rw [e1]
        exact ⟨h3, Nat.lt_of_le_of_lt e2 h3⟩
    · cases h
theorem papD_of {j : Nat} {d : D} (hb : bdD 9 j d = true) (h : paperOk d = true) : ∃ p, d = papD p ∧ ∀ q, p = some q → SmP q := by
  unfold paperOk at h
  split at h
  · exact ⟨none, rfl, fun q e => by cases e⟩
  · rename_i w v p r
    simp only [Bool.and_eq_true] at h
    obtain ⟨⟨h1, -⟩, ⟨h2, h3⟩, h4⟩ := h
    cases w <;> try (cases h1; done)
    rename_i w
    obtain ⟨ps, rfl, hp⟩ := numsD_of h3
    obtain ⟨rs, rfl, hr⟩ := numsD_of h4
    cases v <;> try (cases h2; done)
    rename_i vs
    have h2 : (vs.all fun d => isNon d || valOk d) = true := h2
    obtain ⟨vs, rfl, hv⟩ := of_each (f := valD) (P := fun v => ∀ n d, v = some (n, d) → n < 10 ^ 4000 ∧ d < 10 ^ 4000) fun y hy => valD_of (List.all_eq_true.mp h2 y hy)
    match j, hb with
    | 0, hb => cases hb
    | j + 1, hb =>
      rw [bd_tup, Bool.and_eq_true] at hb
      have hb := List.all_eq_true.mp hb.1
      have len : ∀ {es : List D}, D.tup es ∈ [.str w, .tup (vs.map valD), numsD ps, numsD rs] → es.length ≤ 9 := fun {es} hm => by
        have := hb _ hm
        match j, this with
        | 0, this => cases this
        | j + 1, this =>
          rw [bd_tup, Bool.and_eq_true, decide_eq_true_eq] at this
          exact this.2
      refine ⟨some ⟨w, vs, ps, rs⟩, rfl, fun q e => ?_⟩
      cases e
      refine ⟨h1, ?_, hv, ?_, hp, ?_, hr⟩
      · have := len (es := vs.map valD) (by simp)
        rw [List.length_map] at this; exact this
      · have := len (es := ps.map fun (n : Nat) => D.int n) (by show D.tup _ ∈ _; unfold numsD; simp)
        rw [List.length_map] at this; exact this
      · have := len (es := rs.map fun (n : Nat) => D.int n) (by show D.tup _ ∈ _; unfold numsD; simp)
        rw [List.length_map] at this; exact this
  · cases h
theorem ansD_of {j : Nat} {d : D} (hb : bdD 9 j d = true) (h : answerOk d = true) : ∃ a, d = ansD a ∧ SmA a := by
  unfold answerOk at h
  split at h
  · rename_i y ps
    rw [Bool.and_eq_true] at h
    match j, hb with
    | 0, hb => cases hb
    | 1, hb =>
      rw [bd_tup, Bool.and_eq_true] at hb
      exact absurd (List.all_eq_true.mp hb.1 (.tup ps) (by simp)) (by show ¬ (false = true); decide)
    | j + 2, hb =>
      rw [bd_tup, Bool.and_eq_true] at hb
      have hb := List.all_eq_true.mp hb.1 (.tup ps) (by simp)
      rw [bd_tup, Bool.and_eq_true, decide_eq_true_eq] at hb
      obtain ⟨hb, hl⟩ := hb
      obtain ⟨qs, rfl, hq⟩ := of_each (f := partD) (P := fun p => p.1.length ≤ 9 ∧ (∀ n ∈ p.1, n ≤ 999) ∧ ∀ q, p.2 = some q → SmP q) fun x hx => by
        have h1 := List.all_eq_true.mp h.2 x hx
        have h2 := List.all_eq_true.mp hb x hx
        unfold partOk at h1
        split at h1
        · rename_i a b
          rw [Bool.and_eq_true] at h1
          match j, h2 with
          | 0, h2 => cases h2
          | j + 1, h2 =>
            rw [bd_tup, Bool.and_eq_true] at h2
            have h2 := List.all_eq_true.mp h2.1
            obtain ⟨ns, rfl, hn⟩ := numsD_of h1.1
            obtain ⟨p, rfl, hp⟩ := papD_of (h2 b (by simp)) h1.2
            refine ⟨(ns, p), rfl, ?_, hn, hp⟩
            have := h2 (numsD ns) (by simp)
            match j, this with
            | 0, this => cases this
            | j + 1, this =>
              have this : bdD 9 (j + 1) (.tup (ns.map fun (n : Nat) => D.int n)) = true := this
              rw [bd_tup, Bool.and_eq_true, decide_eq_true_eq, List.length_map] at this
              exact this.2
        · cases h1
      rw [List.length_map] at hl
      exact ⟨⟨y, qs⟩, rfl, hl, fun p hp => (hq p hp).1, fun p hp => (hq p hp).2.1, fun p hp => (hq p hp).2.2⟩
  · cases h
end
end K54

set_option linter.all false
set_option maxRecDepth 100000
set_option maxHeartbeats 1000000
set_option exponentiation.threshold 20000
namespace K54
open PySem MP
/-! ### the law's turns -/
theorem bd_nums {j : Nat} {ns : List Nat} (hl : ns.length ≤ 4) (h : ∀ n ∈ ns, n ≤ 999) : bdD 4 (j + 1) (numsD ns) = true := by
  show bdD 4 (j + 1) (.tup (ns.map fun (n : Nat) => D.int n)) = true
  rw [bd_tup, List.length_map, decide_eq_true hl, Bool.and_true, List.all_map, List.all_eq_true]
  intro n hn
  have := h n hn
  show bdD 4 j (.int (n : Int)) = true
  have e : decide ((n : Int).natAbs ≤ 1000) = true := decide_eq_true (by rw [Int.natAbs_natCast]; omega)
  cases j <;> exact e
theorem bd_ans {a : Ans} (h : TnA a) : bdD 4 6 (ansD a) = true := by
  have hv : ∀ v, goodV v → bdD 4 1 (valD v) = true := fun v g => by
    match v, g with
    | none, _ => rfl
    | some (n, d), g =>
      obtain ⟨h1, h2, _, _⟩ := g n d rfl
      show bdD 4 1 (.tup [.int n, .int d]) = true
      rw [bd_tup]
      have e : ∀ m : Nat, m ≤ 10 → bdD 4 0 (.int (m : Int)) = true := fun m hm => decide_eq_true (by rw [Int.natAbs_natCast]; omega)
      simp only [List.all_cons, List.all_nil, e n h1, e d h2]
      rfl
  have hp : ∀ p ∈ a.parts, bdD 4 4 (partD p) = true := fun p hp => by
    have r := h.r p hp
    show bdD 4 4 (.tup [numsD p.1, papD p.2]) = true
    rw [bd_tup]
    have e1 := bd_nums (j := 2) (by have := r.nl; omega) r.ns
    have e2 : bdD 4 3 (papD p.2) = true := by
      match q : p.2 with
      | none => rfl
      | some z =>
        have g := r.ps z q
        show bdD 4 3 (.tup [.str z.w, .tup (z.vs.map valD), numsD z.ps, numsD z.rs]) = true
        rw [bd_tup]
        have e3 := bd_nums (j := 1) g.pl g.ps
        have e4 := bd_nums (j := 1) g.rl g.rs
        have e5 : bdD 4 2 (.tup (z.vs.map valD)) = true := by
          rw [bd_tup, List.length_map, decide_eq_true (by have := g.vl; omega), Bool.and_true, List.all_map, List.all_eq_true]
          exact fun v hv2 => hv v (g.vs v hv2)
        simp only [List.all_cons, List.all_nil, e3, e4, e5]
        rfl
    simp only [List.all_cons, List.all_nil, e1, e2]
    rfl
  show bdD 4 6 (.tup [.bl a.y, .tup (a.parts.map partD)]) = true
  rw [bd_tup]
  have e : bdD 4 5 (.tup (a.parts.map partD)) = true := by
    rw [bd_tup, List.length_map, decide_eq_true (by have := h.l; omega), Bool.and_true, List.all_map, List.all_eq_true]
    exact fun p hpp => hp p hpp
  simp only [List.all_cons, List.all_nil, e]
  rfl
theorem gd_ok {a : Ans} (h : GdA a) (hl : (ansT a).length ≤ 90000) : okD (ansD a) = true := ok_ans (rdAns_ok hl (rdAns_ans h))
def bentE : E := .idx (.lst false (.cons (.bin .add (.bin .add (.slc (.var 6) .none (.some (.var 10))) (.var 11)) (.slc (.var 6) (.some (.var 10)) .none)) (.cons (.bin .add (.slc (.var 6) .none (.some (.var 10))) (.slc (.var 6) (.some (.bin .add (.var 10) (.int 1))) .none)) (.cons (.bin .add (.bin .add (.slc (.var 6) .none (.some (.var 10))) (.var 11)) (.slc (.var 6) (.some (.bin .add (.var 10) (.int 1))) .none)) (.cons (.slc (.var 6) .none (.some (.var 10))) .nil))))) (.call 23 (.cons (.var 0) (.cons (.int 4) .nil)))
def bentE1 : E := .idx (.lst false (.cons (.bin .add (.bin .add (.slc (.var 6) .none (.some (.var 10))) (.var 11)) (.slc (.var 6) (.some (.var 10)) .none)) (.cons (.bin .add (.slc (.var 6) .none (.some (.var 10))) (.slc (.var 6) (.some (.bin .add (.var 10) (.int 1))) .none)) (.cons (.bin .add (.bin .add (.slc (.var 6) .none (.some (.var 10))) (.var 11)) (.slc (.var 6) (.some (.bin .add (.var 10) (.int 1))) .none)) (.cons (.slc (.var 6) .none (.some (.var 10))) .nil))))) (.call 23 (.cons (.var 1) (.cons (.int 4) .nil)))
def inB : Sts := (.cons (.par2 10 11 (.call 23 (.cons (.var 1) (.cons (.bin .add (.bi .len (.cons (.var 6) .nil)) (.int 1)) .nil))) (.idx (.str "0123,;:/- ays9") (.call 23 (.cons (.var 1) (.cons (.int 14) .nil)))))
  (.cons (.asg (.nm 8) bentE1)
  (.cons (.par2 12 13 (.call 38 (.cons (.var 8) .nil)) (.call 39 (.cons (.var 1) (.cons (.var 5) .nil))))
  (.cons (.ifs (.cmp .ne (.bi .repr (.cons (.call 40 (.cons (.int 1) (.cons (.var 8) .nil))) .nil)) (.bi .repr (.cons (.ife (.isN false (.var 12)) (.str "<malformed>") (.var 12)) .nil))) (.cons (.ret (.bl false))
  .nil) .nil)
  (.cons (.asg (.nm 9) (.call 34 (.cons (.var 13) .nil)))
  (.cons (.ifs (.or (.no (.call 24 (.cons (.call 10 (.cons (.var 13) .nil)) (.cons (.var 9) .nil)))) (.cmp .eq (.cmp .eq (.call 40 (.cons (.int 0) (.cons (.var 13) .nil))) (.str "<malformed>")) (.var 9))) (.cons (.ret (.bl false))
  .nil) .nil)
  .nil))))))
def outB : Sts := (.cons (.asg (.nm 5) (.call 29 (.cons (.var 1) .nil)))
  (.cons (.asg (.nm 6) (.call 26 (.cons (.var 5) .nil)))
  (.cons (.ifs (.or (.cmp .ne (.call 15 (.cons (.var 5) .nil)) (.var 6)) (.or (.cmp .ne (.bi .repr (.cons (.call 21 (.cons (.var 6) .nil)) .nil)) (.bi .repr (.cons (.var 5) .nil))) (.no (.call 24 (.cons (.call 10 (.cons (.var 5) .nil)) (.cons (.bl true) .nil)))))) (.cons (.ret (.bl false))
  .nil) .nil)
  (.cons (.for_ (.nm 7) (.rng1 (.int 6)) inB)
  .nil))))
def tailB : Sts := (.cons (.asg (.nm 3) (.bin .mul (.str "9") (.int 4000)))
  (.cons (.asg (.nm 4) (.tup (.cons (.bl true) (.cons (.tup (.cons (.tup (.cons (.tup .nil) (.cons (.tup (.cons (.str "most") (.cons (.tup (.cons (.tup (.cons (.bi .int (.cons (.var 3) .nil)) (.cons (.int 1) .nil))) .nil)) (.cons (.tup (.cons (.int 0) .nil)) (.cons (.tup (.cons (.int 0) .nil)) .nil))))) .nil))) .nil)) .nil))))
  (.cons (.ifs (.or (.cmp .ne (.call 15 (.cons (.var 4) .nil)) (.bin .add (.bin .add (.str "yes; - most:") (.var 3)) (.str ":0:0"))) (.cmp .ne (.bi .repr (.cons (.call 21 (.cons (.bin .add (.bin .add (.str "yes; - most:") (.var 3)) (.str ":0:0")) .nil)) .nil)) (.bi .repr (.cons (.var 4) .nil)))) (.cons (.ret (.bl false))
  .nil) .nil)
  (.cons (.asg (.nm 4) (.tup (.cons (.bl true) (.cons (.tup (.cons (.tup (.cons (.tup .nil) (.cons (.tup (.cons (.str "most") (.cons (.tup (.cons (.tup (.cons (.bin .add (.bi .int (.cons (.var 3) .nil)) (.int 1)) (.cons (.int 1) .nil))) .nil)) (.cons (.tup (.cons (.int 0) .nil)) (.cons (.tup (.cons (.int 0) .nil)) .nil))))) .nil))) .nil)) .nil))))
  (.cons (.ifs (.or (.cmp .ne (.call 40 (.cons (.int 0) (.cons (.var 4) .nil))) (.str "<malformed>")) (.cmp .ne (.call 40 (.cons (.int 1) (.cons (.bin .add (.bin .add (.str "yes; - most:") (.var 3)) (.str "0:0:0")) .nil))) (.str "<malformed>"))) (.cons (.ret (.bl false))
  .nil) .nil)
  (.cons (.ret (.cmp .eq (.comp false (.call 40 (.cons (.int 1) (.cons (.var 14) .nil))) (.nm 14) (.of (.lst false (.cons .non (.cons (.int 5) (.cons (.var 5) (.cons (.str "") (.cons (.str "maybe") .nil))))))) .none [14]) (.bin .mul (.lst false (.cons (.str "<malformed>") .nil)) (.int 5))))
  .nil))))))
theorem f41_eq : f41 = ⟨1, 15, (.cons (.asg (.nm 1) (.call 22 (.cons (.var 0) .nil))) (.cons (.for_ (.nm 2) (.rng1 (.int 6)) outB) tailB))⟩ := rfl
theorem ansT_hd (a : Ans) : ∃ r, ansT a = 121 :: r ∨ ansT a = 110 :: r := by
  unfold ansT
  generalize a.parts.map partT = ps
  cases a.y <;> cases ps
  · exact ⟨_, .inr rfl⟩
  · exact ⟨_, .inr rfl⟩
  · exact ⟨_, .inl rfl⟩
  · exact ⟨_, .inl rfl⟩
section
variable {M : Nat} {S : Sto}
/-- the texts that a bent one may be -/
theorem bents_ev (c : Cfg) (T : Sto) (z s : Str) (i : Int) (hz : z.length ≤ 500) (hs : s.length ≤ 1) (x0 x1 x2 x3 x4 x5 x7 x8 x9 x12 x13 x14 : Option D) :
    ∃ cs : List Str, (∀ y ∈ cs, y.length ≤ 2000) ∧ cs.length = 4 ∧ evE c (.lst false (.cons (.bin .add (.bin .add (.slc (.var 6) .none (.some (.var 10))) (.var 11)) (.slc (.var 6) (.some (.var 10)) .none)) (.cons (.bin .add (.slc (.var 6) .none (.some (.var 10))) (.slc (.var 6) (.some (.bin .add (.var 10) (.int 1))) .none)) (.cons (.bin .add (.bin .add (.slc (.var 6) .none (.some (.var 10))) (.var 11)) (.slc (.var 6) (.some (.bin .add (.var 10) (.int 1))) .none)) (.cons (.slc (.var 6) .none (.some (.var 10))) .nil)))))
      [x0, x1, x2, x3, x4, x5, some (.str z), x7, x8, x9, some (.int i), some (.str s), x12, x13, x14] T = .ok (.lst (cs.map .str)) T := by
  have sl : ∀ lo hi, ∃ y : Str, evSlc T (.str z) lo hi = some (.str y) ∧ y.length ≤ 500 := fun lo hi => by
    refine ⟨L2.cutS z lo hi, ?_, Nat.le_trans (L2.cutS_length z lo hi) hz⟩
    unfold evSlc
    dsimp only
    rw [if_pos (le_big (by omega))]
  have ad : ∀ a b : Str, a.length ≤ 501 → b.length ≤ 500 → ∃ y : Str, evBin .add T (.str a) (.str b) = some (.str y) ∧ y.length ≤ a.length + b.length := fun a b ha hb => by
    refine ⟨a ++ b, ?_, by rw [strLen_append]; omega⟩
    unfold evBin
    dsimp only
    rw [if_pos (le_big (by omega))]
  obtain ⟨a, a1, a2⟩ := sl none (some i)
  obtain ⟨b, b1, b2⟩ := sl (some i) none
  obtain ⟨d, d1, d2⟩ := sl (some (i + 1)) none
  obtain ⟨p, p1, p2⟩ := ad a s (by omega) (by omega)
  obtain ⟨q1, q2, q3⟩ := ad p b (by omega) b2
  obtain ⟨r1, r2, r3⟩ := ad a d (by omega) d2
  obtain ⟨t1, t2, t3⟩ := ad p d (by omega) d2
  have hi : evBin .add T (.int i) (.int 1) = some (.int (i + 1)) := rfl
  refine ⟨[q1, r1, t1, a], fun y hy => ?_, rfl, ?_⟩
  · simp only [List.mem_cons, List.not_mem_nil, or_false] at hy
    rcases hy with rfl | rfl | rfl | rfl <;> omega
  · simp [cfg_call, cfg_N, ev_var, ev_non, ev_bl, ev_int, ev_str, ev_glb, ev_bin, ev_neg, ev_no, ev_cmp, ev_chain, ev_isN, ev_and, ev_or, ev_ife, ev_call, ev_bi, ev_isi, ev_me, ev_repl, ev_lm, ev_idx, ev_slc, ev_rev, ev_tup, ev_lstF, ev_lstT, ev_dct, es_nil, es_cons, eo_none, eo_some, ss_nil, ss_cons, s_asg, s_asgc, s_par2, s_par3, s_aug, s_sset, s_xpr, s_ifs, s_ret, s_raise, s_try, it_of, it_rng1, eb_none, eb_some, b_ok, b_exc, t_ok, t_exc, r_some, RS.next, bindTg, List.getElem?_cons_zero, List.getElem?_cons_succ, List.set_cons_zero, List.set_cons_succ, a1, b1, d1, p1, q2, r2, t2, hi, sizeLine_eq]
theorem in_turn (hM : 10 ^ 4100 ≤ M) (a : Ans) (ha : TnA a) (dr : Draw) (hok : dr.ok) (d : D) (x0 x2 x3 x4 x7 x8 x9 x10 x11 x12 x13 x14 : Option D) :
    ∃ (dr' : Draw) (y8 y9 y10 y11 y12 y13 : Option D), fTurn (cfgN txt.prog M 39) (.nm 7) inB d [x0, some (.loc 0), x2, x3, x4, some (ansD a), some (.str (SX.S (ansT a))), x7, x8, x9, x10, x11, x12, x13, x14] [.lst dr.L] =
      .ok .nx [x0, some (.loc 0), x2, x3, x4, some (ansD a), some (.str (SX.S (ansT a))), some d, y8, y9, y10, y11, y12, y13, x14] [.lst dr'.L] ∧ dr'.ok := by
  have hb : bindTg (.nm 7) [x0, some (.loc 0), x2, x3, x4, some (ansD a), some (.str (SX.S (ansT a))), x7, x8, x9, x10, x11, x12, x13, x14] d = some [x0, some (.loc 0), x2, x3, x4, some (ansD a), some (.str (SX.S (ansT a))), some d, x8, x9, x10, x11, x12, x13, x14] := rfl
  have hlen := tn_len ha
  have hln := len_S [.lst dr.L] (ansT a) (by omega)
  obtain ⟨i, dr1, a1, a2, a3, a4⟩ := tk (M := M) (k := 38) (T := []) dr hok ((ansT a).length + 1) (by omega) (by omega)
  obtain ⟨v, dr2, b1, b2, b3, b4⟩ := tk (M := M) (k := 38) (T := []) dr1 a4 14 (by decide) (by decide)
  obtain ⟨s, hs1, hs2⟩ : ∃ s : Str, evIdx [.lst dr2.L] (.str "0123,;:/- ays9") (.int v) = some (.str s) ∧ s.length ≤ 1 := by
    have hl : (Str.ofString "0123,;:/- ays9").cps.toList.length = 14 := by decide +kernel
    obtain ⟨c, -, e⟩ := atI_in (xs := (Str.ofString "0123,;:/- ays9").cps.toList) b2 (by rw [hl]; exact b3)
    refine ⟨⟨#[c]⟩, ?_, Nat.le_refl 1⟩
    unfold evIdx
    dsimp only
    rw [if_pos (le_big (by decide +kernel)), e]; rfl
  have hadd : evBin .add [.lst dr.L] (.int (ansT a).length) (.int 1) = some (.int ((ansT a).length + 1)) := rfl
  have g1 : evS (cfgN txt.prog M 39) (.par2 10 11 (.call 23 (.cons (.var 1) (.cons (.bin .add (.bi .len (.cons (.var 6) .nil)) (.int 1)) .nil))) (.idx (.str "0123,;:/- ays9") (.call 23 (.cons (.var 1) (.cons (.int 14) .nil))))) [x0, some (.loc 0), x2, x3, x4, some (ansD a), some (.str (SX.S (ansT a))), some d, x8, x9, x10, x11, x12, x13, x14] [.lst dr.L] =
      .ok .nx [x0, some (.loc 0), x2, x3, x4, some (ansD a), some (.str (SX.S (ansT a))), some d, x8, x9, some (.int i), some (.str s), x12, x13, x14] [.lst dr2.L] := by
    generalize ansD a = A at *
    generalize SX.S (ansT a) = z at *
    simp [cfg_call, cfg_N, ev_var, ev_non, ev_bl, ev_int, ev_str, ev_glb, ev_bin, ev_neg, ev_no, ev_cmp, ev_chain, ev_isN, ev_and, ev_or, ev_ife, ev_call, ev_bi, ev_isi, ev_me, ev_repl, ev_lm, ev_idx, ev_slc, ev_rev, ev_tup, ev_lstF, ev_lstT, ev_dct, es_nil, es_cons, eo_none, eo_some, ss_nil, ss_cons, s_asg, s_asgc, s_par2, s_par3, s_aug, s_sset, s_xpr, s_ifs, s_ret, s_raise, s_try, it_of, it_rng1, eb_none, eb_some, b_ok, b_exc, t_ok, t_exc, r_some, RS.next, bindTg, List.getElem?_cons_zero, List.getElem?_cons_succ, List.set_cons_zero, List.set_cons_succ, hln, hadd, a1, b1, hs1]
  obtain ⟨cs, hc1, hc2, hc3⟩ := bents_ev (cfgN txt.prog M 39) [.lst dr2.L] (SX.S (ansT a)) s i (by rw [SX.S_len]; exact hlen) hs2 x0 (some (.loc 0)) x2 x3 x4 (some (ansD a)) (some d) x8 x9 x12 x13 x14
  obtain ⟨w, dr3, c1, c2, c3, c4⟩ := tk (M := M) (k := 38) (T := []) dr2 b4 4 (by decide) (by decide)
  obtain ⟨bt, hbt, ebt⟩ := atI_in (xs := cs.map D.str) c2 (by rw [List.length_map, hc2]; exact c3)
  obtain ⟨bs, hbs, rfl⟩ := List.mem_map.mp hbt
  have hbl := hc1 bs hbs
  obtain ⟨bl, rfl⟩ : ∃ bl : List Nat, bs = SX.S bl := ⟨bs.cps.toList, (SX.S_tl bs).symm⟩
  rw [SX.S_len] at hbl
  have ebt : evIdx [.lst dr3.L] (.lst (cs.map .str)) (.int w) = some (.str (SX.S bl)) := ebt
  have g2 : evS (cfgN txt.prog M 39) (.asg (.nm 8) bentE1) [x0, some (.loc 0), x2, x3, x4, some (ansD a), some (.str (SX.S (ansT a))), some d, x8, x9, some (.int i), some (.str s), x12, x13, x14] [.lst dr2.L] =
      .ok .nx [x0, some (.loc 0), x2, x3, x4, some (ansD a), some (.str (SX.S (ansT a))), some d, some (.str (SX.S bl)), x9, some (.int i), some (.str s), x12, x13, x14] [.lst dr3.L] := by
    unfold bentE1
    rw [s_asg, ev_idx, hc3, b_ok]
    generalize cs.map D.str = cl at *
    generalize ansD a = A at *
    generalize SX.S (ansT a) = z at *
    simp [cfg_call, cfg_N, ev_var, ev_non, ev_bl, ev_int, ev_str, ev_glb, ev_bin, ev_neg, ev_no, ev_cmp, ev_chain, ev_isN, ev_and, ev_or, ev_ife, ev_call, ev_bi, ev_isi, ev_me, ev_repl, ev_lm, ev_idx, ev_slc, ev_rev, ev_tup, ev_lstF, ev_lstT, ev_dct, es_nil, es_cons, eo_none, eo_some, ss_nil, ss_cons, s_asg, s_asgc, s_par2, s_par3, s_aug, s_sset, s_xpr, s_ifs, s_ret, s_raise, s_try, it_of, it_rng1, eb_none, eb_some, b_ok, b_exc, t_ok, t_exc, r_some, RS.next, bindTg, List.getElem?_cons_zero, List.getElem?_cons_succ, List.set_cons_zero, List.set_cons_succ, c1, ebt]
  have dinf : ∀ dr : Draw, List.all [Ob.lst dr.L] (Ob.inf ([Ob.lst dr.L] : Sto).length) = true := fun dr => by
    show (Ob.inf 1 (.lst dr.L) && true) = true
    rw [draw_inf]; rfl
  have due := law_read_ev (M := M) (k := 35) (S := [.lst dr3.L]) hM bl hbl (dinf dr3) (fun a _ => inf_ans _ _)
  have due : callN txt.prog M 39 38 [.str (SX.S bl)] [.lst dr3.L] = .ok (oansD (lawRead bl)) [.lst dr3.L] := due
  obtain ⟨o, dr4, o1, o2, o3⟩ := bent_ev (M := M) (k := 31) 6 (ansD a) dr3 c4 (bd_ans ha)
  have o1 : callN txt.prog M 39 39 [.loc 0, ansD a] [.lst dr3.L] = .ok o [.lst dr4.L] := o1
  have g3 : evS (cfgN txt.prog M 39) (.par2 12 13 (.call 38 (.cons (.var 8) .nil)) (.call 39 (.cons (.var 1) (.cons (.var 5) .nil)))) [x0, some (.loc 0), x2, x3, x4, some (ansD a), some (.str (SX.S (ansT a))), some d, some (.str (SX.S bl)), x9, some (.int i), some (.str s), x12, x13, x14] [.lst dr3.L] =
      .ok .nx [x0, some (.loc 0), x2, x3, x4, some (ansD a), some (.str (SX.S (ansT a))), some d, some (.str (SX.S bl)), x9, some (.int i), some (.str s), some (oansD (lawRead bl)), some o, x14] [.lst dr4.L] := by
    generalize ansD a = A at *
    generalize oansD (lawRead bl) = od at *
    generalize SX.S (ansT a) = z at *
    generalize SX.S bl = bz at *
    simp [cfg_call, cfg_N, ev_var, ev_non, ev_bl, ev_int, ev_str, ev_glb, ev_bin, ev_neg, ev_no, ev_cmp, ev_chain, ev_isN, ev_and, ev_or, ev_ife, ev_call, ev_bi, ev_isi, ev_me, ev_repl, ev_lm, ev_idx, ev_slc, ev_rev, ev_tup, ev_lstF, ev_lstT, ev_dct, es_nil, es_cons, eo_none, eo_some, ss_nil, ss_cons, s_asg, s_asgc, s_par2, s_par3, s_aug, s_sset, s_xpr, s_ifs, s_ret, s_raise, s_try, it_of, it_rng1, eb_none, eb_some, b_ok, b_exc, t_ok, t_exc, r_some, RS.next, bindTg, List.getElem?_cons_zero, List.getElem?_cons_succ, List.set_cons_zero, List.set_cons_succ, due, o1]
  have t1 := told1 (read_answer_ev (M := M) (k := 31) (S := [.lst dr4.L]) hM bl (by omega) (.inl hbl))
  rw [← lawRead_eq] at t1
  have t1 : callN txt.prog M 39 40 [.int 1, .str (SX.S bl)] [.lst dr4.L] = .ok (((lawRead bl).map ansD).getD mal) [.lst dr4.L] := t1
  have g4 : evS (cfgN txt.prog M 39) (.ifs (.cmp .ne (.bi .repr (.cons (.call 40 (.cons (.int 1) (.cons (.var 8) .nil))) .nil)) (.bi .repr (.cons (.ife (.isN false (.var 12)) (.str "<malformed>") (.var 12)) .nil))) (.cons (.ret (.bl false)) .nil) .nil) [x0, some (.loc 0), x2, x3, x4, some (ansD a), some (.str (SX.S (ansT a))), some d, some (.str (SX.S bl)), x9, some (.int i), some (.str s), some (oansD (lawRead bl)), some o, x14] [.lst dr4.L] =
      .ok .nx [x0, some (.loc 0), x2, x3, x4, some (ansD a), some (.str (SX.S (ansT a))), some d, some (.str (SX.S bl)), x9, some (.int i), some (.str s), some (oansD (lawRead bl)), some o, x14] [.lst dr4.L] := by
    cases q : lawRead bl with
    | none =>
      rw [q] at t1
      have t1 : callN txt.prog M 39 40 [.int 1, .str (SX.S bl)] [.lst dr4.L] = .ok (.str "<malformed>") [.lst dr4.L] := t1
      obtain ⟨r, hr⟩ := repr_mal [.lst dr4.L]
      have hn := ne_self [.lst dr4.L] r
      have n5 : isNon .non = true := rfl
      generalize ansD a = A at *
      generalize SX.S (ansT a) = z at *
      generalize SX.S bl = bz at *
      generalize (Str.ofString "<malformed>") = mf at *
      unfold oansD
      simp only [cfg_call, cfg_N, ev_var, ev_non, ev_bl, ev_int, ev_str, ev_glb, ev_bin, ev_neg, ev_no, ev_cmp, ev_chain, ev_isN, ev_and, ev_or, ev_ife, ev_call, ev_bi, ev_isi, ev_me, ev_repl, ev_lm, ev_idx, ev_slc, ev_rev, ev_tup, ev_lstF, ev_lstT, ev_dct, es_nil, es_cons, eo_none, eo_some, ss_nil, ss_cons, s_asg, s_asgc, s_par2, s_par3, s_aug, s_sset, s_xpr, s_ifs, s_ret, s_raise, s_try, it_of, it_rng1, eb_none, eb_some, b_ok, b_exc, t_ok, t_exc, r_some, RS.next, bindTg, List.getElem?_cons_zero, List.getElem?_cons_succ, List.set_cons_zero, List.set_cons_succ, ↓reduceIte, t1, hr, hn, n5, ss_nil, Bool.not_false]
    | some ar =>
      rw [q] at t1
      have t1 : callN txt.prog M 39 40 [.int 1, .str (SX.S bl)] [.lst dr4.L] = .ok (ansD ar) [.lst dr4.L] := t1
      have hrd : rdAns bl = some ar := by
        rw [lawRead_eq] at q
        unfold progRead at q
        cases z : rdAns bl with
        | none => rw [z] at q; cases q
        | some y =>
          rw [z, Option.filter_some] at q
          split at q
          · exact q
          · cases q
      have hr := repr_ans (by omega) hrd [.lst dr4.L]
      have hn := ne_self [.lst dr4.L] (ansP ar).shown
      have n5 : isNon (ansD ar) = false := rfl
      show _ = RS.ok .nx [x0, some (.loc 0), x2, x3, x4, some (ansD a), some (.str (SX.S (ansT a))), some d, some (.str (SX.S bl)), x9, some (.int i), some (.str s), some (ansD ar), some o, x14] [.lst dr4.L]
      show evS _ _ [x0, some (.loc 0), x2, x3, x4, some (ansD a), some (.str (SX.S (ansT a))), some d, some (.str (SX.S bl)), x9, some (.int i), some (.str s), some (ansD ar), some o, x14] [.lst dr4.L] = _
      generalize (ansP ar).shown = rr at *
      generalize ansD ar = B at *
      generalize ansD a = A at *
      generalize SX.S (ansT a) = z at *
      generalize SX.S bl = bz at *
      simp only [cfg_call, cfg_N, ev_var, ev_non, ev_bl, ev_int, ev_str, ev_glb, ev_bin, ev_neg, ev_no, ev_cmp, ev_chain, ev_isN, ev_and, ev_or, ev_ife, ev_call, ev_bi, ev_isi, ev_me, ev_repl, ev_lm, ev_idx, ev_slc, ev_rev, ev_tup, ev_lstF, ev_lstT, ev_dct, es_nil, es_cons, eo_none, eo_some, ss_nil, ss_cons, s_asg, s_asgc, s_par2, s_par3, s_aug, s_sset, s_xpr, s_ifs, s_ret, s_raise, s_try, it_of, it_rng1, eb_none, eb_some, b_ok, b_exc, t_ok, t_exc, r_some, RS.next, bindTg, List.getElem?_cons_zero, List.getElem?_cons_succ, List.set_cons_zero, List.set_cons_succ, ↓reduceIte, t1, hr, hn, n5, ss_nil, Bool.not_false, Bool.false_eq_true]
  obtain ⟨sm, okd, -⟩ := bdD_all (by decide) 7 o o3
  have h34 := law_has_form_ev (M := M) (k := 35) (S := [.lst dr4.L]) hM o sm
  have h34 : callN txt.prog M 39 34 [o] [.lst dr4.L] = .ok (.bl (answerOk o)) [.lst dr4.L] := h34
  have g5 : evS (cfgN txt.prog M 39) (.asg (.nm 9) (.call 34 (.cons (.var 13) .nil))) [x0, some (.loc 0), x2, x3, x4, some (ansD a), some (.str (SX.S (ansT a))), some d, some (.str (SX.S bl)), x9, some (.int i), some (.str s), some (oansD (lawRead bl)), some o, x14] [.lst dr4.L] =
      .ok .nx [x0, some (.loc 0), x2, x3, x4, some (ansD a), some (.str (SX.S (ansT a))), some d, some (.str (SX.S bl)), some (.bl (answerOk o)), some (.int i), some (.str s), some (oansD (lawRead bl)), some o, x14] [.lst dr4.L] := by
    generalize ansD a = A at *
    generalize oansD (lawRead bl) = od at *
    generalize SX.S (ansT a) = z at *
    generalize SX.S bl = bz at *
    simp [cfg_call, cfg_N, ev_var, ev_non, ev_bl, ev_int, ev_str, ev_glb, ev_bin, ev_neg, ev_no, ev_cmp, ev_chain, ev_isN, ev_and, ev_or, ev_ife, ev_call, ev_bi, ev_isi, ev_me, ev_repl, ev_lm, ev_idx, ev_slc, ev_rev, ev_tup, ev_lstF, ev_lstT, ev_dct, es_nil, es_cons, eo_none, eo_some, ss_nil, ss_cons, s_asg, s_asgc, s_par2, s_par3, s_aug, s_sset, s_xpr, s_ifs, s_ret, s_raise, s_try, it_of, it_rng1, eb_none, eb_some, b_ok, b_exc, t_ok, t_exc, r_some, RS.next, bindTg, List.getElem?_cons_zero, List.getElem?_cons_succ, List.set_cons_zero, List.set_cons_succ, h34]
  have h10 := has_answer_form_ev (M := M) (k := 33) (S := [.lst dr4.L]) hM o okd
  have h10 : callN txt.prog M 39 10 [o] [.lst dr4.L] = .ok (.bl (answerOk o)) [.lst dr4.L] := h10
  have h24 := says_ev (M := M) (k := 38) (S := [.lst dr4.L]) (answerOk o) (answerOk o)
  have h24 : callN txt.prog M 39 24 [.bl (answerOk o), .bl (answerOk o)] [.lst dr4.L] = .ok (.bl true) [.lst dr4.L] := by rw [beq_self_eq_true] at h24; exact h24
  obtain ⟨z, t0, hz⟩ : ∃ z : Str, callN txt.prog M 39 40 [.int 0, o] [.lst dr4.L] = .ok (.str z) [.lst dr4.L] ∧ evCmp .eq [.lst dr4.L] (.str z) (.str "<malformed>") = some (!answerOk o) := by
    cases q : answerOk o with
    | true =>
      obtain ⟨a2, rfl, sa⟩ := ansD_of o3 q
      have hw := write_answer_ev (M := M) (k := 31) (S := [.lst dr4.L]) hM a2 sa okd q
      have t := told0 (M := M) (k := 38) (S := [.lst dr4.L]) (v := ansD a2) (o := some (.str (SX.S (ansT a2)))) hw
      refine ⟨SX.S (ansT a2), t, ?_⟩
      have lm : (Str.ofString "<malformed>" : Str) = SX.S [60, 109, 97, 108, 102, 111, 114, 109, 101, 100, 62] := by decide +kernel
      rw [lm, eq_S]
      have : ansT a2 ≠ [60, 109, 97, 108, 102, 111, 114, 109, 101, 100, 62] := by
        intro e
        obtain ⟨r, hr⟩ := ansT_hd a2
        rw [e] at hr
        rcases hr with hr | hr <;> cases hr
      rw [decide_eq_false this]; rfl
    | false =>
      obtain ⟨m, hw⟩ := write_answer_bad (M := M) (k := 31) (S := [.lst dr4.L]) hM o okd q
      have t := told0 (M := M) (k := 38) (S := [.lst dr4.L]) (v := o) (o := none) ⟨m, hw⟩
      refine ⟨"<malformed>", t, ?_⟩
      have := eq_S [.lst dr4.L] (Str.ofString "<malformed>").cps.toList (Str.ofString "<malformed>").cps.toList
      rw [SX.S_tl, decide_eq_true rfl] at this
      exact this
  have hbb := evbb [.lst dr4.L] (!answerOk o) (answerOk o)
  have hbb : evCmp .eq [.lst dr4.L] (.bl (!answerOk o)) (.bl (answerOk o)) = some false := by
    rw [hbb]
    cases answerOk o <;> rfl
  have g6 : evS (cfgN txt.prog M 39) (.ifs (.or (.no (.call 24 (.cons (.call 10 (.cons (.var 13) .nil)) (.cons (.var 9) .nil)))) (.cmp .eq (.cmp .eq (.call 40 (.cons (.int 0) (.cons (.var 13) .nil))) (.str "<malformed>")) (.var 9))) (.cons (.ret (.bl false)) .nil) .nil)
      [x0, some (.loc 0), x2, x3, x4, some (ansD a), some (.str (SX.S (ansT a))), some d, some (.str (SX.S bl)), some (.bl (answerOk o)), some (.int i), some (.str s), some (oansD (lawRead bl)), some o, x14] [.lst dr4.L] =
      .ok .nx [x0, some (.loc 0), x2, x3, x4, some (ansD a), some (.str (SX.S (ansT a))), some d, some (.str (SX.S bl)), some (.bl (answerOk o)), some (.int i), some (.str s), some (oansD (lawRead bl)), some o, x14] [.lst dr4.L] := by
    generalize ansD a = A at *
    generalize oansD (lawRead bl) = od at *
    generalize SX.S (ansT a) = zz at *
    generalize SX.S bl = bz at *
    generalize (Str.ofString "<malformed>") = mf at *
    generalize answerOk o = ao at *
    simp only [cfg_call, cfg_N, ev_var, ev_non, ev_bl, ev_int, ev_str, ev_glb, ev_bin, ev_neg, ev_no, ev_cmp, ev_chain, ev_isN, ev_and, ev_or, ev_ife, ev_call, ev_bi, ev_isi, ev_me, ev_repl, ev_lm, ev_idx, ev_slc, ev_rev, ev_tup, ev_lstF, ev_lstT, ev_dct, es_nil, es_cons, eo_none, eo_some, ss_nil, ss_cons, s_asg, s_asgc, s_par2, s_par3, s_aug, s_sset, s_xpr, s_ifs, s_ret, s_raise, s_try, it_of, it_rng1, eb_none, eb_some, b_ok, b_exc, t_ok, t_exc, r_some, RS.next, bindTg, List.getElem?_cons_zero, List.getElem?_cons_succ, List.set_cons_zero, List.set_cons_succ, ↓reduceIte, h10, h24, t0, hz, hbb, ss_nil, Bool.not_true]
  refine ⟨dr4, some (.str (SX.S bl)), some (.bl (answerOk o)), some (.int i), some (.str s), some (oansD (lawRead bl)), some o, ?_, o2⟩
  rw [fTurn_of hb]
  unfold inB
  exact (ss_go g1).trans ((ss_go g2).trans ((ss_go g3).trans ((ss_go g4).trans ((ss_go g5).trans ((ss_go g6).trans ss_nil)))))
end
end K54

set_option linter.all false
set_option maxRecDepth 100000
set_option maxHeartbeats 1000000
set_option exponentiation.threshold 20000
namespace K54
open PySem MP
section
variable {M : Nat} {S : Sto}
theorem gd_repr {a : Ans} (h : GdA a) (hl : (ansT a).length ≤ 90000) (T : Sto) : evBi .repr T [ansD a] = some (.str (ansP a).shown) := repr_ans hl (rdAns_ans h) T
theorem gd_read (hM : 10 ^ 4100 ≤ M) {a : Ans} (h : GdA a) (hl : (ansT a).length ≤ 90000) (h2 : (ansT a).length ≤ 2000 ∨ 47 ∉ ansT a) : callN txt.prog M 39 21 [.str (SX.S (ansT a))] S = .ok (ansD a) S := by
  have := read_answer_ev (M := M) (k := 32) (S := S) hM (ansT a) hl h2
  rw [progRead_ans h] at this
  exact this
theorem gd_write (hM : 10 ^ 4100 ≤ M) {a : Ans} (h : GdA a) (hl : (ansT a).length ≤ 90000) : callN txt.prog M 39 15 [ansD a] S = .ok (.str (SX.S (ansT a))) S :=
  write_answer_ev (M := M) (k := 32) (S := S) hM a h.sm (gd_ok h hl) (gd_form h)
theorem it_six (c : Cfg) (env : MP.Env) (T : Sto) : evIt c (.rng1 (.int 6)) env T = .ok ⟨(List.range 6).map fun (k : Nat) => .int k, none⟩ T := it_rng (n := 6) (by rw [ev_int]; rfl) (by decide)
theorem out_turn (hM : 10 ^ 4100 ≤ M) (dr : Draw) (hok : dr.ok) (d : D) (x0 x2 x3 x4 x5 x6 x7 x8 x9 x10 x11 x12 x13 x14 : Option D) :
    ∃ (a : Ans) (dr' : Draw) (y6 y7 y8 y9 y10 y11 y12 y13 : Option D), fTurn (cfgN txt.prog M 39) (.nm 2) outB d [x0, some (.loc 0), x2, x3, x4, x5, x6, x7, x8, x9, x10, x11, x12, x13, x14] [.lst dr.L] =
      .ok .nx [x0, some (.loc 0), some d, x3, x4, some (ansD a), y6, y7, y8, y9, y10, y11, y12, y13, x14] [.lst dr'.L] ∧ dr'.ok := by
  have hb : bindTg (.nm 2) [x0, some (.loc 0), x2, x3, x4, x5, x6, x7, x8, x9, x10, x11, x12, x13, x14] d = some [x0, some (.loc 0), some d, x3, x4, x5, x6, x7, x8, x9, x10, x11, x12, x13, x14] := rfl
  obtain ⟨a, dr1, a1, a2, a3⟩ := law_answer_ev (M := M) (k := 36) hM dr hok
  have a1 : callN txt.prog M 39 29 [.loc 0] [.lst dr.L] = .ok (ansD a) [.lst dr1.L] := a1
  have hg := tn_sm a3
  have hl := tn_len a3
  have dinf : List.all [Ob.lst dr1.L] (Ob.inf ([Ob.lst dr1.L] : Sto).length) = true := by
    show (Ob.inf 1 (.lst dr1.L) && true) = true
    rw [draw_inf]; rfl
  have ht := law_answer_text_ev (M := M) (k := 37) (S := [.lst dr1.L]) a hg dinf
  have ht : callN txt.prog M 39 26 [ansD a] [.lst dr1.L] = .ok (.str (SX.S (ansT a))) [.lst dr1.L] := ht
  have hw := gd_write (M := M) (S := [.lst dr1.L]) hM hg (by omega)
  have hr := gd_read (M := M) (S := [.lst dr1.L]) hM hg (by omega) (.inl (by omega))
  have hrp := gd_repr hg (by omega) [.lst dr1.L]
  have hn1 := ne_self [.lst dr1.L] (SX.S (ansT a))
  have hn2 := ne_self [.lst dr1.L] (ansP a).shown
  have h10 := has_answer_form_ev (M := M) (k := 33) (S := [.lst dr1.L]) hM (ansD a) (gd_ok hg (by omega))
  rw [gd_form hg] at h10
  have h10 : callN txt.prog M 39 10 [ansD a] [.lst dr1.L] = .ok (.bl true) [.lst dr1.L] := h10
  have h24 : callN txt.prog M 39 24 [.bl true, .bl true] [.lst dr1.L] = .ok (.bl true) [.lst dr1.L] := says_ev (M := M) (k := 38) (S := [.lst dr1.L]) true true
  obtain ⟨e1, S1, l1, y7, y8, y9, y10, y11, y12, y13, dr2, rfl, rfl, l2⟩ := forL_inv (w := ⟨(List.range 6).map fun (k : Nat) => .int k, none⟩) (f := fTurn (cfgN txt.prog M 39) (.nm 7) inB) rfl
    (fun env S => ∃ (y7 y8 y9 y10 y11 y12 y13 : Option D) (dr : Draw), env = [x0, some (.loc 0), some d, x3, x4, some (ansD a), some (.str (SX.S (ansT a))), y7, y8, y9, y10, y11, y12, y13, x14] ∧ S = [.lst dr.L] ∧ dr.ok) ((List.range 6).map fun (k : Nat) => .int k)
    [x0, some (.loc 0), some d, x3, x4, some (ansD a), some (.str (SX.S (ansT a))), x7, x8, x9, x10, x11, x12, x13, x14] [.lst dr1.L] ⟨_, _, _, _, _, _, _, dr1, rfl, rfl, a2⟩ (by
      rintro z hz env S ⟨y7, y8, y9, y10, y11, y12, y13, dr, rfl, rfl, hok⟩
      obtain ⟨dr', z8, z9, z10, z11, z12, z13, q1, q2⟩ := in_turn (M := M) hM a a3 dr hok z x0 (some d) x3 x4 y7 y8 y9 y10 y11 y12 y13 x14
      exact ⟨_, _, q1, _, _, _, _, _, _, _, dr', rfl, rfl, q2⟩)
  refine ⟨a, dr2, some (.str (SX.S (ansT a))), y7, y8, y9, y10, y11, y12, y13, ?_, l2⟩
  rw [fTurn_of hb]
  unfold outB
  refine (ss_go (env1 := [x0, some (.loc 0), some d, x3, x4, some (ansD a), x6, x7, x8, x9, x10, x11, x12, x13, x14]) (S1 := [.lst dr1.L]) ?_).trans
    ((ss_go (env1 := [x0, some (.loc 0), some d, x3, x4, some (ansD a), some (.str (SX.S (ansT a))), x7, x8, x9, x10, x11, x12, x13, x14]) (S1 := [.lst dr1.L]) ?_).trans
    ((ss_go (env1 := [x0, some (.loc 0), some d, x3, x4, some (ansD a), some (.str (SX.S (ansT a))), x7, x8, x9, x10, x11, x12, x13, x14]) (S1 := [.lst dr1.L]) ?_).trans
    ((ss_go (env1 := [x0, some (.loc 0), some d, x3, x4, some (ansD a), some (.str (SX.S (ansT a))), y7, y8, y9, y10, y11, y12, y13, x14]) (S1 := [.lst dr2.L]) ?_).trans ss_nil)))
  · generalize ansD a = A at *
    generalize SX.S (ansT a) = z at *
    simp [cfg_call, cfg_N, ev_var, ev_non, ev_bl, ev_int, ev_str, ev_glb, ev_bin, ev_neg, ev_no, ev_cmp, ev_chain, ev_isN, ev_and, ev_or, ev_ife, ev_call, ev_bi, ev_isi, ev_me, ev_repl, ev_lm, ev_idx, ev_slc, ev_rev, ev_tup, ev_lstF, ev_lstT, ev_dct, es_nil, es_cons, eo_none, eo_some, ss_nil, ss_cons, s_asg, s_asgc, s_par2, s_par3, s_aug, s_sset, s_xpr, s_ifs, s_ret, s_raise, s_try, it_of, it_rng1, eb_none, eb_some, b_ok, b_exc, t_ok, t_exc, r_some, RS.next, bindTg, List.getElem?_cons_zero, List.getElem?_cons_succ, List.set_cons_zero, List.set_cons_succ, a1]
  · generalize ansD a = A at *
    generalize SX.S (ansT a) = z at *
    simp [cfg_call, cfg_N, ev_var, ev_non, ev_bl, ev_int, ev_str, ev_glb, ev_bin, ev_neg, ev_no, ev_cmp, ev_chain, ev_isN, ev_and, ev_or, ev_ife, ev_call, ev_bi, ev_isi, ev_me, ev_repl, ev_lm, ev_idx, ev_slc, ev_rev, ev_tup, ev_lstF, ev_lstT, ev_dct, es_nil, es_cons, eo_none, eo_some, ss_nil, ss_cons, s_asg, s_asgc, s_par2, s_par3, s_aug, s_sset, s_xpr, s_ifs, s_ret, s_raise, s_try, it_of, it_rng1, eb_none, eb_some, b_ok, b_exc, t_ok, t_exc, r_some, RS.next, bindTg, List.getElem?_cons_zero, List.getElem?_cons_succ, List.set_cons_zero, List.set_cons_succ, ht]
  · generalize (ansP a).shown = rr at *
    generalize ansD a = A at *
    generalize SX.S (ansT a) = z at *
    simp only [cfg_call, cfg_N, ev_var, ev_non, ev_bl, ev_int, ev_str, ev_glb, ev_bin, ev_neg, ev_no, ev_cmp, ev_chain, ev_isN, ev_and, ev_or, ev_ife, ev_call, ev_bi, ev_isi, ev_me, ev_repl, ev_lm, ev_idx, ev_slc, ev_rev, ev_tup, ev_lstF, ev_lstT, ev_dct, es_nil, es_cons, eo_none, eo_some, ss_nil, ss_cons, s_asg, s_asgc, s_par2, s_par3, s_aug, s_sset, s_xpr, s_ifs, s_ret, s_raise, s_try, it_of, it_rng1, eb_none, eb_some, b_ok, b_exc, t_ok, t_exc, r_some, RS.next, bindTg, List.getElem?_cons_zero, List.getElem?_cons_succ, List.set_cons_zero, List.set_cons_succ, ↓reduceIte, hw, hr, hrp, hn1, hn2, h10, h24, ss_nil, Bool.not_true]
  · rw [s_for, it_six]
    exact l1
/-! ### the wide numbers -/
def nines (n : Nat) : List Nat := List.replicate n 57
def wideA (v : Nat) : Ans := ⟨true, [([], some ⟨"most", [some (v, 1)], [0], [0]⟩)]⟩
theorem nines_val (n : Nat) : NumText.digitsVal (nines n) + 1 = 10 ^ n := by
  have h : ∀ (n a : Nat), (List.replicate n 57).foldl (fun acc c => acc * 10 + (c - 48)) a + 1 = (a + 1) * 10 ^ n := by
    intro n
    induction n with
    | zero => intro a; simp
    | succ n ih =>
      intro a
      rw [List.replicate_succ, List.foldl_cons, ih, Nat.pow_succ]
      rw [show a * 10 + (57 - 48) + 1 = (a + 1) * 10 by omega, Nat.mul_assoc, Nat.mul_comm 10]
  have := h n 0
  simpa [NumText.digitsVal, nines] using this
theorem nines_dig (n : Nat) : (nines n).all isDig = true := List.all_eq_true.mpr fun c hc => by rw [List.eq_of_mem_replicate hc]; rfl
theorem nines_len (n : Nat) : (nines n).length = n := List.length_replicate
theorem nines_num {n : Nat} (h : 0 < n) : TL.numL (NumText.digitsVal (nines n)) = nines n := by
  obtain ⟨m, rfl⟩ : ∃ m, n = m + 1 := ⟨n - 1, by omega⟩
  unfold TL.numL
  rw [NumText.toDigits_digitsVal m (nines (m + 1)) (nines_len _) (fun c hc => by rw [List.eq_of_mem_replicate hc]; decide) (.inr ⟨57, nines m, rfl, by decide⟩)]
  rw [List.map_map]
  unfold nines
  rw [List.map_replicate]
  rfl
def pre1 : List Nat := [121, 101, 115, 59, 32, 45, 32, 109, 111, 115, 116, 58]
theorem lit_pre : (Str.ofString "yes; - most:" : Str) = SX.S pre1 := by decide +kernel
theorem lit_s1 : (Str.ofString ":0:0" : Str) = SX.S [58, 48, 58, 48] := by decide +kernel
theorem lit_s2 : (Str.ofString "0:0:0" : Str) = SX.S [48, 58, 48, 58, 48] := by decide +kernel
theorem wide_text (v : Nat) : ansT (wideA v) = pre1 ++ TL.numL v ++ [58, 48, 58, 48] := by
  have w : wordT "most" = wMost := by decide +kernel
  have z : numsT [0] = [48] := by decide +kernel
  show TL.joinL [59, 32] [wYes, [45] ++ [32] ++ TL.joinL [58] [wordT "most", TL.joinL [44] [fracT v 1], numsT [0], numsT [0]]] = _
  rw [w, z]
  show wYes ++ ([59, 32] ++ ([45] ++ [32] ++ (wMost ++ ([58] ++ (TL.numL v ++ ([58] ++ ([48] ++ ([58] ++ [48])))))))) = _
  simp [wYes, wMost, pre1]
theorem wide_gd {v : Nat} (h : v < 10 ^ 4000) : GdA (wideA v) := by
  have one : 1 < 10 ^ 4000 := small4000 (by decide)
  refine ⟨⟨by show 1 ≤ 9; decide, fun p hp => ?_, fun p hp => ?_, fun p hp q hq => ?_⟩, fun p hp q hq => ?_⟩
  · rw [List.mem_singleton.mp hp]; show 0 ≤ 9; decide
  · rw [List.mem_singleton.mp hp]; intro n hn; cases hn
  · rw [List.mem_singleton.mp hp] at hq
    cases hq
    refine ⟨by show (papers.any fun q => q.1 == ("most" : Str)) = true; decide +kernel, by show 1 ≤ 9; decide, fun x hx n d e => ?_, by show 1 ≤ 9; decide, fun n hn => ?_, by show 1 ≤ 9; decide, fun n hn => ?_⟩
    · have hx : x = some (v, 1) := List.mem_singleton.mp hx
      rw [hx] at e
      cases e
      exact ⟨h, one⟩
    · rw [List.mem_singleton.mp hn]; decide
    · rw [List.mem_singleton.mp hn]; decide
  · rw [List.mem_singleton.mp hp] at hq
    cases hq
    refine ⟨List.cons_ne_nil _ _, List.cons_ne_nil _ _, List.cons_ne_nil _ _, fun x hx n d e => ?_⟩
    have hx : x = some (v, 1) := List.mem_singleton.mp hx
    rw [hx] at e
    cases e
    exact ⟨by decide, Nat.gcd_one_right v⟩
theorem wide_no {v : Nat} (h : ¬ v < 10 ^ 4000) : answerOk (ansD (wideA v)) = false := by
  have h0 : 0 < v := by
    have : 0 < 10 ^ 4000 := Nat.pow_pos (by decide)
    omega
  rw [answerOk_ans]
  have e : valOk (.tup [.int v, .int (1 : Nat)]) = false := by
    show ((decide ((0 : Int) < (1 : Nat)) && decide ((Nat.gcd (v : Int).natAbs ((1 : Nat) : Int).natAbs : Int) = 1)) && decide ((0 : Int) ≤ v) && decide ((if (v : Int) < ((1 : Nat) : Int) then ((1 : Nat) : Int) else v).natAbs < 10 ^ 4000)) = false
    rw [if_neg (by omega), Int.natAbs_natCast, decide_eq_false h, Bool.and_false]
  have e2 : valsOk (.tup [valD (some (v, 1))]) = false := by
    show ([.tup [.int v, .int (1 : Nat)]] : List D).all (fun d => isNon d || valOk d) = false
    rw [List.all_cons, e]; rfl
  have e3 : paperOk (papD (some ⟨"most", [some (v, 1)], [0], [0]⟩)) = false := by
    show (inPapers (.str "most") && (neTup (.tup [valD (some (v, 1))]) && neTup (numsD [0]) && neTup (numsD [0])) && (valsOk (.tup [valD (some (v, 1))]) && areNums (numsD [0]) && areNums (numsD [0]))) = false
    rw [e2, Bool.false_and, Bool.false_and, Bool.and_false]
  show ([(([] : List Nat), some (Pap.mk "most" [some (v, 1)] [0] [0]))] : List (List Nat × Option Pap)).all (fun p => partOk (partD p)) = false
  rw [List.all_cons, partOk_part, e3, Bool.and_false, Bool.false_and]
/-- one digit too many -/
theorem wide_bad {n : Nat} (h : 4000 ≤ n) : progRead (pre1 ++ nines n ++ [48, 58, 48, 58, 48]) = none := by
  have nn : ∀ c, c ≠ 57 → c ∉ nines n := fun c hc hm => hc (List.eq_of_mem_replicate hm)
  have nn2 : ∀ c, c ≠ 57 → c ≠ 48 → c ∉ nines n ++ [48] := fun c hc h2 hm => by
    rcases List.mem_append.mp hm with hm | hm
    · exact nn c hc hm
    · exact h2 (List.mem_singleton.mp hm)
  have et : pre1 ++ nines n ++ [48, 58, 48, 58, 48] = TL.joinL [59, 32] [wYes, [45] ++ (32 :: ([] ++ TL.joinL [58] [wMost, nines n ++ [48], [48], [48]]))] := by
    show _ = wYes ++ ([59, 32] ++ ([45] ++ (32 :: ([] ++ (wMost ++ ([58] ++ ((nines n ++ [48]) ++ ([58] ++ ([48] ++ ([58] ++ [48]))))))))))
    simp [wYes, wMost, pre1]
  have hj : ∀ c, c ≠ 57 → c ≠ 48 → c ≠ 58 → c ∉ wMost → c ∉ TL.joinL [58] [wMost, nines n ++ [48], [48], [48]] := fun c h1 h2 h3 h4 => by
    refine nin_join (by simpa using h3) fun p hp => ?_
    simp only [List.mem_cons, List.not_mem_nil, or_false] at hp
    rcases hp with rfl | rfl | rfl | rfl
    · exact h4
    · exact nn2 c h1 h2
    · simpa using h2
    · simpa using h2
  have sp : TL.spl [59, 32] 0 [] (pre1 ++ nines n ++ [48, 58, 48, 58, 48]) = [wYes, [45] ++ (32 :: ([] ++ TL.joinL [58] [wMost, nines n ++ [48], [48], [48]]))] := by
    rw [et]
    refine SX.spl_join (c := 59) (sep := [32]) (by simp) fun p hp => ?_
    simp only [List.mem_cons, List.not_mem_nil, or_false] at hp
    rcases hp with rfl | rfl
    · decide
    · simp only [List.mem_append, List.mem_cons, List.not_mem_nil, or_false, false_or, not_or]
      exact ⟨by decide, by decide, hj 59 (by decide) (by decide) (by decide) (by decide)⟩
  have hp : TL.par [32] [] ([45] ++ (32 :: ([] ++ TL.joinL [58] [wMost, nines n ++ [48], [48], [48]]))) = some ([45], TL.joinL [58] [wMost, nines n ++ [48], [48], [48]]) := SX.par_head (c := 32) (sep := []) (p := [45]) _ (by decide)
  have s2 : TL.spl [58] 0 [] (TL.joinL [58] [wMost, nines n ++ [48], [48], [48]]) = [wMost, nines n ++ [48], [48], [48]] := by
    refine SX.spl_join (c := 58) (sep := []) (by simp) fun p hp => ?_
    simp only [List.mem_cons, List.not_mem_nil, or_false] at hp
    rcases hp with rfl | rfl | rfl | rfl
    · decide
    · exact nn2 58 (by decide) (by decide)
    · decide
    · decide
  have s3 : TL.spl [44] 0 [] (nines n ++ [48]) = [nines n ++ [48]] := SX.spl_join (c := 44) (sep := []) (parts := [nines n ++ [48]]) (by simp) fun p hp => by
    rw [List.mem_singleton.mp hp]; exact nn2 44 (by decide) (by decide)
  have hlen : (nines n ++ [48]).length = n + 1 := by rw [List.length_append, nines_len]; rfl
  have v0 : rdVal (nines n ++ [48]) = none := by
    unfold rdVal
    rw [if_neg (fun e => by have := congrArg List.length e; rw [hlen] at this; simp at this; omega), TL.par_none1 (nn2 47 (by decide) (by decide))]
    dsimp only
    have : rdNumP (nines n ++ [48]) = none := if_neg (by rw [hlen]; omega)
    rw [this]; rfl
  have v1 : rdVals (nines n ++ [48]) = none := by
    unfold rdVals
    rw [s3, List.mapM_cons, v0]; rfl
  have p0 : rdPap (TL.joinL [58] [wMost, nines n ++ [48], [48], [48]]) = none := by
    unfold rdPap
    rw [if_neg (fun e => by
      have : 58 ∈ TL.joinL [58] [wMost, nines n ++ [48], [48], [48]] := by simp [TL.joinL]
      rw [e] at this; revert this; decide), s2]
    dsimp only
    rw [v1]
    cases wordF wMost <;> rfl
  have r0 : rdPart ([45] ++ (32 :: ([] ++ TL.joinL [58] [wMost, nines n ++ [48], [48], [48]]))) = none := by
    unfold rdPart
    rw [hp]
    dsimp only
    rw [p0]
    cases rdNumsP [45] <;> rfl
  have a0 : rdAns (pre1 ++ nines n ++ [48, 58, 48, 58, 48]) = none := by
    unfold rdAns
    rw [sp]
    dsimp only
    rw [List.mapM_cons, r0]
    rfl
  unfold progRead
  rw [a0]; rfl
def tl1 : E := .bin .add (.bin .add (.str "yes; - most:") (.var 3)) (.str ":0:0")
theorem nines_ev (T : Sto) (n : Nat) (i : Int) (hi : i = n) (h1 : 2 ≤ n) (h2 : n ≤ 4200) : evBin .mul T (.str "9") (.int i) = some (.str (SX.S (nines n))) := by
  subst hi
  have e : strRep "9" n = SX.S (nines n) := strRep_S 57 n
  unfold evBin
  dsimp only
  have hl : (Str.ofString "9").length = 1 := by decide
  rw [hl, if_pos ⟨by omega, by omega, by omega, by omega⟩, Int.toNat_natCast, e]
theorem bad5 (T : Sto) : evCmp .eq T (.lst [mal, mal, mal, mal, mal]) (.lst [mal, mal, mal, mal, mal]) = some true := by
  show evEqD T (.lst [mal, mal, mal, mal, mal]) (.lst [mal, mal, mal, mal, mal]) = _
  have t : toPS T (.lst [mal, mal, mal, mal, mal]) = some (.list [.str "<malformed>", .str "<malformed>", .str "<malformed>", .str "<malformed>", .str "<malformed>"]) := rfl
  unfold evEqD
  rw [t]
  have s : SeqAt.shaped (.list [.str "<malformed>", .str "<malformed>", .str "<malformed>", .str "<malformed>", .str "<malformed>"]) = true := by decide +kernel
  have e : PyData.eqv (.list [.str "<malformed>", .str "<malformed>", .str "<malformed>", .str "<malformed>", .str "<malformed>"]) (.list [.str "<malformed>", .str "<malformed>", .str "<malformed>", .str "<malformed>", .str "<malformed>"]) = true := by decide +kernel
  dsimp only
  rw [s, e]; rfl
theorem rep5 (T : Sto) : evBin .mul T (.lst [mal]) (.int 5) = some (.lst [mal, mal, mal, mal, mal]) := by
  show (if 0 ≤ (5 : Int) ∧ (5 : Int) < 2 ^ 63 ∧ ([mal] : List D).length * (5 : Int).toNat ≤ sizeLine then some (D.lst (List.replicate (5 : Int).toNat [mal]).flatten) else none) = _
  rw [if_pos ⟨by decide, by decide, le_big (by decide)⟩]
  rfl
/-- the tail, for any number of nines -/
theorem tail_ev (hM : 10 ^ 4100 ≤ M) (n : Nat) (hn : n = 4000) (dr : Draw) (a : Ans) (x0 x2 x3 x4 x6 x7 x8 x9 x10 x11 x12 x13 x14 : Option D) :
    ∃ env, evSs (cfgN txt.prog M 39) tailB [x0, some (.loc 0), x2, x3, x4, some (ansD a), x6, x7, x8, x9, x10, x11, x12, x13, x14] [.lst dr.L] = .ok (.rt (.bl true)) env [.lst dr.L] := by
  have hi : ((4000 : Int)) = n := by rw [hn]; rfl
  have n0 : 2 ≤ n := by omega
  have n1 : n ≤ 4000 := by omega
  have n2 : 4000 ≤ n := by omega
  clear hn
  have hmul := nines_ev [.lst dr.L] n 4000 hi n0 (by omega)
  have hint : evBi .int [.lst dr.L] [.str (SX.S (nines n))] = some (.int (NumText.digitsVal (nines n) : Nat)) := int_ev [.lst dr.L] (nines_dig n) (by intro e; have := congrArg List.length e; rw [nines_len] at this; simp at this; omega) (by rw [nines_len]; exact n1)
  have hv := nines_val n
  have hnum := nines_num (n := n) (by omega)
  generalize hvv : NumText.digitsVal (nines n) = v at *
  have hlt : v < 10 ^ 4000 := by
    have := Nat.pow_le_pow_right (show 0 < 10 by decide) n1
    omega
  have hnl : ¬ v + 1 < 10 ^ 4000 := by
    have := Nat.pow_le_pow_right (show 0 < 10 by decide) n2
    omega
  have hok2 : okD (ansD (wideA (v + 1))) = true := by
    have : v + 1 < 10 ^ 4100 := by
      rw [hv]
      exact Nat.lt_of_le_of_lt (Nat.pow_le_pow_right (by decide) n1) (Nat.pow_lt_pow_right (by decide) (by decide))
    have e1 : okD (.int ((v + 1 : Nat) : Int)) = true := decide_eq_true (by rw [Int.natAbs_natCast]; exact this)
    show okD (.tup [.bl true, .tup [.tup [.tup [], .tup [.str "most", .tup [.tup [.int ((v + 1 : Nat) : Int), .int (1 : Nat)]], .tup [.int (0 : Nat)], .tup [.int (0 : Nat)]]]]]) = true
    have e0 : okD (.int ((0 : Nat) : Int)) = true := ok_nat (small4000 (by decide))
    have e2 : okD (.int ((1 : Nat) : Int)) = true := ok_nat (small4000 (by decide))
    generalize (((v + 1 : Nat) : Int)) = vv at *
    generalize ((1 : Nat) : Int) = v1 at *
    generalize ((0 : Nat) : Int) = v2 at *
    simp only [okD, okDs] at e1 e0 e2 ⊢
    rw [e1, e0, e2]
    rfl
  have hg := wide_gd hlt
  have et := wide_text v
  rw [hnum] at et
  have hl : (ansT (wideA v)).length ≤ 90000 := by
    rw [et, List.length_append, List.length_append, nines_len]
    show 12 + n + 4 ≤ 90000
    omega
  have h47 : 47 ∉ ansT (wideA v) := by
    rw [et]
    simp only [List.mem_append, not_or]
    exact ⟨⟨by decide, fun hm => by have := List.eq_of_mem_replicate hm; revert this; decide⟩, by decide⟩
  have hw := gd_write (M := M) (S := [.lst dr.L]) hM hg hl
  have hr := gd_read (M := M) (S := [.lst dr.L]) hM hg hl (.inr h47)
  have hrp := gd_repr hg hl [.lst dr.L]
  have hn1 := ne_self [.lst dr.L] (SX.S (ansT (wideA v)))
  have hn2 := ne_self [.lst dr.L] (ansP (wideA v)).shown
  have hnm := ne_self [.lst dr.L] "<malformed>"
  obtain ⟨m, hwb⟩ := write_answer_bad (M := M) (k := 31) (S := [.lst dr.L]) hM _ hok2 (wide_no hnl)
  have t0 := told0 (M := M) (k := 38) (S := [.lst dr.L]) (v := ansD (wideA (v + 1))) (o := none) ⟨m, hwb⟩
  have t0 : callN txt.prog M 39 40 [.int 0, ansD (wideA (v + 1))] [.lst dr.L] = .ok (.str "<malformed>") [.lst dr.L] := t0
  have hl2 : (pre1 ++ nines n ++ [48, 58, 48, 58, 48]).length ≤ 90000 := by
    rw [List.length_append, List.length_append, nines_len]
    show 12 + n + 5 ≤ 90000
    omega
  have h472 : 47 ∉ pre1 ++ nines n ++ [48, 58, 48, 58, 48] := by
    simp only [List.mem_append, not_or]
    exact ⟨⟨by decide, fun hm => by have := List.eq_of_mem_replicate hm; revert this; decide⟩, by decide⟩
  have t1 := told1 (read_answer_ev (M := M) (k := 31) (S := [.lst dr.L]) hM _ hl2 (.inr h472))
  rw [wide_bad n2] at t1
  have t1 : callN txt.prog M 39 40 [.int 1, .str (SX.S (pre1 ++ nines n ++ [48, 58, 48, 58, 48]))] [.lst dr.L] = .ok (.str "<malformed>") [.lst dr.L] := t1
  have c1 : evBin .add [.lst dr.L] (.str "yes; - most:") (.str (SX.S (nines n))) = some (.str (SX.S (pre1 ++ nines n))) := by
    rw [lit_pre]
    exact cat_ev _ _ _ (by rw [nines_len]; show 12 + n ≤ 100000; omega)
  have c2 : evBin .add [.lst dr.L] (.str (SX.S (pre1 ++ nines n))) (.str ":0:0") = some (.str (SX.S (ansT (wideA v)))) := by
    rw [lit_s1, et]
    exact cat_ev _ _ _ (by rw [List.length_append, nines_len]; show 12 + n + 4 ≤ 100000; omega)
  have c3 : evBin .add [.lst dr.L] (.str (SX.S (pre1 ++ nines n))) (.str "0:0:0") = some (.str (SX.S (pre1 ++ nines n ++ [48, 58, 48, 58, 48]))) := by
    rw [lit_s2]
    exact cat_ev _ _ _ (by rw [List.length_append, nines_len]; show 12 + n + 5 ≤ 100000; omega)
  have hadd : evBin .add [.lst dr.L] (.int v) (.int 1) = some (.int ((v + 1 : Nat) : Int)) := rfl
  clear hv hnum hlt hnl hok2 hg et hl h47 hl2 h472 hwb hi n0 n1 n2 hvv
  have eA : ansD (wideA v) = .tup [.bl true, .tup [.tup [.tup [], .tup [.str "most", .tup [.tup [.int v, .int 1]], .tup [.int 0], .tup [.int 0]]]]] := rfl
  have eB : ansD (wideA (v + 1)) = .tup [.bl true, .tup [.tup [.tup [], .tup [.str "most", .tup [.tup [.int ((v + 1 : Nat) : Int), .int 1]], .tup [.int 0], .tup [.int 0]]]]] := rfl
  generalize hz1 : SX.S (nines n) = z1 at *
  generalize SX.S (pre1 ++ nines n ++ [48, 58, 48, 58, 48]) = z3 at *
  generalize SX.S (pre1 ++ nines n) = z2 at *
  generalize SX.S (ansT (wideA v)) = z4 at *
  generalize (ansP (wideA v)).shown = z5 at *
  generalize ((v + 1 : Nat) : Int) = v1 at *
  have g1 : evS (cfgN txt.prog M 39) (.asg (.nm 3) (.bin .mul (.str "9") (.int 4000))) [x0, some (.loc 0), x2, x3, x4, some (ansD a), x6, x7, x8, x9, x10, x11, x12, x13, x14] [.lst dr.L] = .ok .nx [x0, some (.loc 0), x2, some (.str z1), x4, some (ansD a), x6, x7, x8, x9, x10, x11, x12, x13, x14] [.lst dr.L] := by
    generalize ansD a = A at *
    simp only [cfg_call, cfg_N, ev_var, ev_non, ev_bl, ev_int, ev_str, ev_glb, ev_bin, ev_neg, ev_no, ev_cmp, ev_chain, ev_isN, ev_and, ev_or, ev_ife, ev_call, ev_bi, ev_isi, ev_me, ev_repl, ev_lm, ev_idx, ev_slc, ev_rev, ev_tup, ev_lstF, ev_lstT, ev_dct, es_nil, es_cons, eo_none, eo_some, ss_nil, ss_cons, s_asg, s_asgc, s_par2, s_par3, s_aug, s_sset, s_xpr, s_ifs, s_ret, s_raise, s_try, it_of, it_rng1, eb_none, eb_some, b_ok, b_exc, t_ok, t_exc, r_some, RS.next, bindTg, List.getElem?_cons_zero, List.getElem?_cons_succ, List.set_cons_zero, List.set_cons_succ, ↓reduceIte, hmul]
  have g2 : evS (cfgN txt.prog M 39) (.asg (.nm 4) (.tup (.cons (.bl true) (.cons (.tup (.cons (.tup (.cons (.tup .nil) (.cons (.tup (.cons (.str "most") (.cons (.tup (.cons (.tup (.cons (.bi .int (.cons (.var 3) .nil)) (.cons (.int 1) .nil))) .nil)) (.cons (.tup (.cons (.int 0) .nil)) (.cons (.tup (.cons (.int 0) .nil)) .nil))))) .nil))) .nil)) .nil))))
      [x0, some (.loc 0), x2, some (.str z1), x4, some (ansD a), x6, x7, x8, x9, x10, x11, x12, x13, x14] [.lst dr.L] = .ok .nx [x0, some (.loc 0), x2, some (.str z1), some (ansD (wideA v)), some (ansD a), x6, x7, x8, x9, x10, x11, x12, x13, x14] [.lst dr.L] := by
    rw [eA]
    generalize ansD a = A at *
    simp [cfg_call, cfg_N, ev_var, ev_non, ev_bl, ev_int, ev_str, ev_glb, ev_bin, ev_neg, ev_no, ev_cmp, ev_chain, ev_isN, ev_and, ev_or, ev_ife, ev_call, ev_bi, ev_isi, ev_me, ev_repl, ev_lm, ev_idx, ev_slc, ev_rev, ev_tup, ev_lstF, ev_lstT, ev_dct, es_nil, es_cons, eo_none, eo_some, ss_nil, ss_cons, s_asg, s_asgc, s_par2, s_par3, s_aug, s_sset, s_xpr, s_ifs, s_ret, s_raise, s_try, it_of, it_rng1, eb_none, eb_some, b_ok, b_exc, t_ok, t_exc, r_some, RS.next, bindTg, List.getElem?_cons_zero, List.getElem?_cons_succ, List.set_cons_zero, List.set_cons_succ, hint, sizeLine_eq]
  have g3 : evS (cfgN txt.prog M 39) (.ifs (.or (.cmp .ne (.call 15 (.cons (.var 4) .nil)) (.bin .add (.bin .add (.str "yes; - most:") (.var 3)) (.str ":0:0"))) (.cmp .ne (.bi .repr (.cons (.call 21 (.cons (.bin .add (.bin .add (.str "yes; - most:") (.var 3)) (.str ":0:0")) .nil)) .nil)) (.bi .repr (.cons (.var 4) .nil)))) (.cons (.ret (.bl false)) .nil) .nil)
      [x0, some (.loc 0), x2, some (.str z1), some (ansD (wideA v)), some (ansD a), x6, x7, x8, x9, x10, x11, x12, x13, x14] [.lst dr.L] = .ok .nx [x0, some (.loc 0), x2, some (.str z1), some (ansD (wideA v)), some (ansD a), x6, x7, x8, x9, x10, x11, x12, x13, x14] [.lst dr.L] := by
    generalize ansD (wideA v) = W at *
    generalize ansD a = A at *
    simp only [cfg_call, cfg_N, ev_var, ev_non, ev_bl, ev_int, ev_str, ev_glb, ev_bin, ev_neg, ev_no, ev_cmp, ev_chain, ev_isN, ev_and, ev_or, ev_ife, ev_call, ev_bi, ev_isi, ev_me, ev_repl, ev_lm, ev_idx, ev_slc, ev_rev, ev_tup, ev_lstF, ev_lstT, ev_dct, es_nil, es_cons, eo_none, eo_some, ss_nil, ss_cons, s_asg, s_asgc, s_par2, s_par3, s_aug, s_sset, s_xpr, s_ifs, s_ret, s_raise, s_try, it_of, it_rng1, eb_none, eb_some, b_ok, b_exc, t_ok, t_exc, r_some, RS.next, bindTg, List.getElem?_cons_zero, List.getElem?_cons_succ, List.set_cons_zero, List.set_cons_succ, ↓reduceIte, hw, c1, c2, hn1, hr, hrp, hn2, ss_nil]
  have g4 : evS (cfgN txt.prog M 39) (.asg (.nm 4) (.tup (.cons (.bl true) (.cons (.tup (.cons (.tup (.cons (.tup .nil) (.cons (.tup (.cons (.str "most") (.cons (.tup (.cons (.tup (.cons (.bin .add (.bi .int (.cons (.var 3) .nil)) (.int 1)) (.cons (.int 1) .nil))) .nil)) (.cons (.tup (.cons (.int 0) .nil)) (.cons (.tup (.cons (.int 0) .nil)) .nil))))) .nil))) .nil)) .nil))))
      [x0, some (.loc 0), x2, some (.str z1), some (ansD (wideA v)), some (ansD a), x6, x7, x8, x9, x10, x11, x12, x13, x14] [.lst dr.L] = .ok .nx [x0, some (.loc 0), x2, some (.str z1), some (ansD (wideA (v + 1))), some (ansD a), x6, x7, x8, x9, x10, x11, x12, x13, x14] [.lst dr.L] := by
    rw [eB]
    generalize ansD (wideA v) = W at *
    generalize ansD a = A at *
    simp [cfg_call, cfg_N, ev_var, ev_non, ev_bl, ev_int, ev_str, ev_glb, ev_bin, ev_neg, ev_no, ev_cmp, ev_chain, ev_isN, ev_and, ev_or, ev_ife, ev_call, ev_bi, ev_isi, ev_me, ev_repl, ev_lm, ev_idx, ev_slc, ev_rev, ev_tup, ev_lstF, ev_lstT, ev_dct, es_nil, es_cons, eo_none, eo_some, ss_nil, ss_cons, s_asg, s_asgc, s_par2, s_par3, s_aug, s_sset, s_xpr, s_ifs, s_ret, s_raise, s_try, it_of, it_rng1, eb_none, eb_some, b_ok, b_exc, t_ok, t_exc, r_some, RS.next, bindTg, List.getElem?_cons_zero, List.getElem?_cons_succ, List.set_cons_zero, List.set_cons_succ, hint, hadd, sizeLine_eq]
  have g5 : evS (cfgN txt.prog M 39) (.ifs (.or (.cmp .ne (.call 40 (.cons (.int 0) (.cons (.var 4) .nil))) (.str "<malformed>")) (.cmp .ne (.call 40 (.cons (.int 1) (.cons (.bin .add (.bin .add (.str "yes; - most:") (.var 3)) (.str "0:0:0")) .nil))) (.str "<malformed>"))) (.cons (.ret (.bl false)) .nil) .nil)
      [x0, some (.loc 0), x2, some (.str z1), some (ansD (wideA (v + 1))), some (ansD a), x6, x7, x8, x9, x10, x11, x12, x13, x14] [.lst dr.L] = .ok .nx [x0, some (.loc 0), x2, some (.str z1), some (ansD (wideA (v + 1))), some (ansD a), x6, x7, x8, x9, x10, x11, x12, x13, x14] [.lst dr.L] := by
    generalize ansD (wideA (v + 1)) = W at *
    generalize ansD a = A at *
    generalize (Str.ofString "<malformed>") = mf at *
    simp only [cfg_call, cfg_N, ev_var, ev_non, ev_bl, ev_int, ev_str, ev_glb, ev_bin, ev_neg, ev_no, ev_cmp, ev_chain, ev_isN, ev_and, ev_or, ev_ife, ev_call, ev_bi, ev_isi, ev_me, ev_repl, ev_lm, ev_idx, ev_slc, ev_rev, ev_tup, ev_lstF, ev_lstT, ev_dct, es_nil, es_cons, eo_none, eo_some, ss_nil, ss_cons, s_asg, s_asgc, s_par2, s_par3, s_aug, s_sset, s_xpr, s_ifs, s_ret, s_raise, s_try, it_of, it_rng1, eb_none, eb_some, b_ok, b_exc, t_ok, t_exc, r_some, RS.next, bindTg, List.getElem?_cons_zero, List.getElem?_cons_succ, List.set_cons_zero, List.set_cons_succ, ↓reduceIte, t0, hnm, c1, c3, t1, ss_nil]
  have b1 := told1 (M := M) (k := 38) (S := [.lst dr.L]) (v := .non) (o := none) (read_answer_no (k := 37) .non rfl)
  have b2 := told1 (M := M) (k := 38) (S := [.lst dr.L]) (v := .int 5) (o := none) (read_answer_no (k := 37) (.int 5) rfl)
  have b3 := told1 (M := M) (k := 38) (S := [.lst dr.L]) (v := ansD a) (o := none) (read_answer_no (k := 37) (ansD a) rfl)
  have p4 : progRead [] = none := by decide +kernel
  have p5 : progRead [109, 97, 121, 98, 101] = none := by decide +kernel
  have b4 := told1 (read_answer_ev (M := M) (k := 31) (S := [.lst dr.L]) hM [] (by decide) (.inl (by decide)))
  have b5 := told1 (read_answer_ev (M := M) (k := 31) (S := [.lst dr.L]) hM [109, 97, 121, 98, 101] (by decide) (.inl (by decide)))
  rw [p4] at b4
  rw [p5] at b5
  have lm : (Str.ofString "maybe" : Str) = SX.S [109, 97, 121, 98, 101] := by decide +kernel
  have hc := comp_al (c := cfgN txt.prog M 39) (env := [x0, some (.loc 0), x2, some (.str z1), some (ansD (wideA (v + 1))), some (ansD a), x6, x7, x8, x9, x10, x11, x12, x13, x14]) (S := [.lst dr.L]) (src := .lst false (.cons .non (.cons (.int 5) (.cons (.var 5) (.cons (.str "") (.cons (.str "maybe") .nil)))))) (elt := .call 40 (.cons (.int 1) (.cons (.var 14) .nil))) (tg := .nm 14) (own := [14]) (e := fun d => d) (g := fun _ => mal) (l := [.non, .int 5, ansD a, .str "", .str "maybe"])
    (v := .lst [.non, .int 5, ansD a, .str "", .str "maybe"]) (by generalize ansD (wideA (v + 1)) = W at *; generalize ansD a = A at *; simp [cfg_call, cfg_N, ev_var, ev_non, ev_bl, ev_int, ev_str, ev_glb, ev_bin, ev_neg, ev_no, ev_cmp, ev_chain, ev_isN, ev_and, ev_or, ev_ife, ev_call, ev_bi, ev_isi, ev_me, ev_repl, ev_lm, ev_idx, ev_slc, ev_rev, ev_tup, ev_lstF, ev_lstT, ev_dct, es_nil, es_cons, eo_none, eo_some, ss_nil, ss_cons, s_asg, s_asgc, s_par2, s_par3, s_aug, s_sset, s_xpr, s_ifs, s_ret, s_raise, s_try, it_of, it_rng1, eb_none, eb_some, b_ok, b_exc, t_ok, t_exc, r_some, RS.next, bindTg, List.getElem?_cons_zero, List.getElem?_cons_succ, List.set_cons_zero, List.set_cons_succ, sizeLine_eq]) rfl (le_big (by show 5 ≤ 1000000; decide)) (fun x hx => ⟨_, rfl, by
      have b : callN txt.prog M 39 40 [.int 1, x] [.lst dr.L] = .ok mal [.lst dr.L] := by
        simp only [List.mem_cons, List.not_mem_nil, or_false] at hx
        rcases hx with rfl | rfl | rfl | rfl | rfl
        · exact b1
        · exact b2
        · exact b3
        · rw [lit_e]; exact b4
        · rw [lm]; exact b5
      generalize ansD (wideA (v + 1)) = W at *
      generalize ansD a = A at *
      simp [cfg_call, cfg_N, ev_var, ev_non, ev_bl, ev_int, ev_str, ev_glb, ev_bin, ev_neg, ev_no, ev_cmp, ev_chain, ev_isN, ev_and, ev_or, ev_ife, ev_call, ev_bi, ev_isi, ev_me, ev_repl, ev_lm, ev_idx, ev_slc, ev_rev, ev_tup, ev_lstF, ev_lstT, ev_dct, es_nil, es_cons, eo_none, eo_some, ss_nil, ss_cons, s_asg, s_asgc, s_par2, s_par3, s_aug, s_sset, s_xpr, s_ifs, s_ret, s_raise, s_try, it_of, it_rng1, eb_none, eb_some, b_ok, b_exc, t_ok, t_exc, r_some, RS.next, bindTg, List.getElem?_cons_zero, List.getElem?_cons_succ, List.set_cons_zero, List.set_cons_succ, wipeE, b]⟩)
  have hc : evE (cfgN txt.prog M 39) _ _ [.lst dr.L] = .ok (.lst [mal, mal, mal, mal, mal]) [.lst dr.L] := hc
  have q5 := bad5 [.lst dr.L]
  have r5 := rep5 [.lst dr.L]
  unfold mal at hc q5 r5
  refine ⟨[x0, some (.loc 0), x2, some (.str z1), some (ansD (wideA (v + 1))), some (ansD a), x6, x7, x8, x9, x10, x11, x12, x13, x14], ?_⟩
  unfold tailB
  refine (ss_go g1).trans ((ss_go g2).trans ((ss_go g3).trans ((ss_go g4).trans ((ss_go g5).trans (ss_rt ?_)))))
  rw [s_ret, ev_cmp, hc, b_ok]
  generalize ansD (wideA (v + 1)) = W at *
  generalize ansD a = A at *
  generalize (Str.ofString "<malformed>") = mf at *
  simp [cfg_call, cfg_N, ev_var, ev_non, ev_bl, ev_int, ev_str, ev_glb, ev_bin, ev_neg, ev_no, ev_cmp, ev_chain, ev_isN, ev_and, ev_or, ev_ife, ev_call, ev_bi, ev_isi, ev_me, ev_repl, ev_lm, ev_idx, ev_slc, ev_rev, ev_tup, ev_lstF, ev_lstT, ev_dct, es_nil, es_cons, eo_none, eo_some, ss_nil, ss_cons, s_asg, s_asgc, s_par2, s_par3, s_aug, s_sset, s_xpr, s_ifs, s_ret, s_raise, s_try, it_of, it_rng1, eb_none, eb_some, b_ok, b_exc, t_ok, t_exc, r_some, RS.next, bindTg, List.getElem?_cons_zero, List.getElem?_cons_succ, List.set_cons_zero, List.set_cons_succ, r5, q5, sizeLine_eq]
theorem gc_any (n : Nat) (d : D) (S : Sto) : ∃ S', gcR n (.ok d S) = .ok d S' := by
  unfold gcR
  dsimp only
  split
  · exact ⟨_, rfl⟩
  · exact ⟨_, rfl⟩
theorem says (hM : 10 ^ 4100 ≤ M) : MP.LawSays txt.prog M 40 41 63 := by
  intro ns hns _
  obtain ⟨dr, d1, d2⟩ := draw_ev (P := txt.prog) (M := M) (k := 38) f22_eq ns hns
  have d1 : callN txt.prog M 39 22 [.scr ns] [] = .ok (.loc 0) [.lst dr.L] := d1
  have hr6 : (List.range 6).map (fun (k : Nat) => D.int k) = .int (0 : Nat) :: ((List.range 5).map fun (k : Nat) => D.int ((k + 1 : Nat) : Int)) := rfl
  obtain ⟨e1, S1, l1, a, y2, y6, y7, y8, y9, y10, y11, y12, y13, dr2, rfl, rfl, l2⟩ := forL_inv1 (w := ⟨(List.range 6).map fun (k : Nat) => .int k, none⟩) (f := fTurn (cfgN txt.prog M 39) (.nm 2) outB) rfl
    (fun env S => ∃ (y2 y5 y6 y7 y8 y9 y10 y11 y12 y13 : Option D) (dr : Draw), env = [some (.scr ns), some (.loc 0), y2, none, none, y5, y6, y7, y8, y9, y10, y11, y12, y13, none] ∧ S = [.lst dr.L] ∧ dr.ok)
    (fun env S => ∃ (a : Ans) (y2 y6 y7 y8 y9 y10 y11 y12 y13 : Option D) (dr : Draw), env = [some (.scr ns), some (.loc 0), y2, none, none, some (ansD a), y6, y7, y8, y9, y10, y11, y12, y13, none] ∧ S = [.lst dr.L] ∧ dr.ok)
    (fun e S ⟨a, y2, y6, y7, y8, y9, y10, y11, y12, y13, dr, h1, h2, h3⟩ => ⟨y2, _, y6, y7, y8, y9, y10, y11, y12, y13, dr, h1, h2, h3⟩)
    (.int (0 : Nat)) ((List.range 5).map fun (k : Nat) => D.int ((k + 1 : Nat) : Int)) [some (.scr ns), some (.loc 0), none, none, none, none, none, none, none, none, none, none, none, none, none] [.lst dr.L] ⟨_, _, _, _, _, _, _, _, _, _, dr, rfl, rfl, d2⟩ (by
      rintro x hx env S ⟨y2, y5, y6, y7, y8, y9, y10, y11, y12, y13, dr, rfl, rfl, hok⟩
      obtain ⟨a, dr', z6, z7, z8, z9, z10, z11, z12, z13, q1, q2⟩ := out_turn (M := M) hM dr hok x (some (.scr ns)) y2 none none y5 y6 y7 y8 y9 y10 y11 y12 y13 none
      exact ⟨_, _, q1, a, _, _, _, _, _, _, _, _, _, dr', rfl, rfl, q2⟩)
  obtain ⟨env, t⟩ := tail_ev (M := M) hM 4000 rfl dr2 a (some (.scr ns)) y2 none none y6 y7 y8 y9 y10 y11 y12 y13 none
  have hb : evSs (cfgN txt.prog M 39) f41.body (startE f41 [.scr ns]) [] = .ok (.rt (.bl true)) env [.lst dr2.L] := by
    rw [f41_eq]
    refine (ss_go (env1 := [some (.scr ns), some (.loc 0), none, none, none, none, none, none, none, none, none, none, none, none, none]) (S1 := [.lst dr.L]) ?_).trans ((ss_go (env1 := [some (.scr ns), some (.loc 0), y2, none, none, some (ansD a), y6, y7, y8, y9, y10, y11, y12, y13, none]) (S1 := [.lst dr2.L]) ?_).trans t)
    · simp [cfg_call, cfg_N, ev_var, ev_non, ev_bl, ev_int, ev_str, ev_glb, ev_bin, ev_neg, ev_no, ev_cmp, ev_chain, ev_isN, ev_and, ev_or, ev_ife, ev_call, ev_bi, ev_isi, ev_me, ev_repl, ev_lm, ev_idx, ev_slc, ev_rev, ev_tup, ev_lstF, ev_lstT, ev_dct, es_nil, es_cons, eo_none, eo_some, ss_nil, ss_cons, s_asg, s_asgc, s_par2, s_par3, s_aug, s_sset, s_xpr, s_ifs, s_ret, s_raise, s_try, it_of, it_rng1, eb_none, eb_some, b_ok, b_exc, t_ok, t_exc, r_some, RS.next, bindTg, List.getElem?_cons_zero, List.getElem?_cons_succ, List.set_cons_zero, List.set_cons_succ, startE, d1]
    · rw [s_for, it_six]
      exact l1
  have := call_run (P := txt.prog) M 39 41 f41 [.scr ns] [] rfl rfl
  rw [hb] at this
  obtain ⟨S', h⟩ := gc_any ([] : Sto).length (.bl true) [.lst dr2.L]
  exact ⟨S', this.trans h⟩
end
end K54

set_option linter.all false
set_option maxRecDepth 100000
set_option maxHeartbeats 0
namespace K54
open PySem PySem.Spec PyProof.Rows L2 MP PySem.W
def nm0 : List Str := ["__name__", "Fault", "Malformed", "is_whole", "common", "lowest", "is_ratio", "DIGITS", "MOST_DIGITS", "is_short", "fraction_text", "MOST_NUMBER", "PAPERS", "are_numbers", "is_value", "are_values", "has_paper_form", "has_answer_form", "numbers_text", "values_text", "paper_text", "plain_answer", "write_answer", "read_digits", "read_numbers", "read_value", "read_paper", "read_part", "read_answer", "_law_draw"]
def nm1 : List Str := ["_law_take", "_law_says", "_law_numbers_text", "_law_answer_text", "_law_lowest", "_law_numbers", "_law_answer", "_law_int", "_law_is_value", "_law_are_numbers", "_law_is_paper", "_law_has_form", "_law_number", "_law_read_numbers", "_law_read_value", "_law_read", "_law_bent", "_law_told"]
def loose : List Str := nm0 ++ nm1
abbrev R : PySem.W.OpenRow := PySem.W.OpenLaw.row PySem.Challenge.rw_oddsmith_k54_whole_texts_of_answers
abbrev hk : PySem.W.Hook := hookM 4 txt
def ob (s : PySem.W.SharedT) : AlM := obsM 4 txt (HandSHeadRun.getT s)
theorem ob_eq (s : PySem.W.SharedT) : ob s = hk.obs s.abs := obsM_eq (HandSHeadRun.getT_eq s)
theorem run (w : World) : HandSHeadRun.RunEq R (PySem.W.view R.prog [52]) hk ob 2000 loose w :=
  byRow2 "special-get-raises" (P := fun w => HandSHeadRun.RunEq R (PySem.W.view R.prog [52]) hk ob 2000 loose w) (fun w os => by kernel_rfl) (fun w os => by kernel_rfl) w
end K54

set_option linter.all false
set_option maxRecDepth 100000
set_option maxHeartbeats 0
set_option exponentiation.threshold 20000
open PySem PySem.W PySem.Calls PyProof.Rows
theorem PySem.Challenge.cw_oddsmith_k54_whole_texts_of_answers_holds : PySem.Challenge.rw_oddsmith_k54_whole_texts_of_answers.Holds := by
  w_on; o_law
  refine HandSHeadRun.head_any (r := OpenLaw.row PySem.Challenge.rw_oddsmith_k54_whole_texts_of_answers) (q := view (OpenLaw.row PySem.Challenge.rw_oddsmith_k54_whole_texts_of_answers).prog [52]) (H := K54.hk) (ob := K54.ob) (M := 2000) (loose := K54.loose) (d := HandSHeadRun.topDef (OpenLaw.row PySem.Challenge.rw_oddsmith_k54_whole_texts_of_answers).prog 52) (kwd := []) K54.ob_eq
    (by kernel_rfl) (fun s => by kernel_rfl) K54.run (by kernel_rfl) (by kernel_rfl) (by kernel_rfl) (by rfl) (by first | assumption | decide +kernel) (by decide +kernel) ⟨rfl, rfl, rfl, rfl, rfl, by decide +kernel⟩ ?hw ?hc
  case hw => w_witness2
  case hc =>
    exact MP.walkM (l := PySem.Challenge.rw_oddsmith_k54_whole_texts_of_answers) (n := 63) (k := 40) (M := 10 ^ 4100) (li := 41) K54.txt rfl (by decide) (by kernel_rfl) ⟨rfl, by decide, by decide⟩ K54.ok_all K54.bd_all "script" ⟨K54.e41, rfl, by kernel_rfl, rfl⟩ (K54.says (Nat.le_refl _))


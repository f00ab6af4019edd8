import PyProof.Rows.All
import Wide.All
import OpenK.AllK
import Wide.FinOn
import HandS.ForMost
import HandS.ForExc
import HandS.TupMul
import HandS.TupAny
import HandS.Deep
import HandS.More
import HandS.Strs
import HandS.SetKeys
import HandS.RaiseMore
import HandS.SortInts
import HandS.Flow
import HandS.ExcCtx
import HandS.SetFor
import HandS.Star
import HandS.Codes
import HandS.CallLocal
import HandS.Comp
import HandS.Iter
import HandS.Zip
import KE.GoesMore
import KE.GoesZip
import HandS.Small
import HandS.HotCalls
import HandS.ExcIs
import HandS.ExcOwn
import HandS.Words
import HandS.Ends
import HandS.Defaults
import HandS.Head0
import HandS.Head1
import HandS.Head2
import HandS.HeadEnd
import HandS.HeadHook1
import HandS.HeadHook2
import PySem.Challenge.RW_countwarrant_k00_whole_sayings_that_hold
import PyProof.Rows.RegFStrParts
import PyProof.P3Eq
set_option Elab.async false
set_option linter.all false
set_option maxRecDepth 100000
set_option maxHeartbeats 4000000
set_option autoImplicit false
/-! Cw, part A: plain values, what they stand for in the abstract heap, slots, steps -/
namespace Cw
open PySem L2

/-- a value of the program, as plain data -/
inductive PV where
  | non | bl (b : Bool) | int (i : Int) | str (x : List Nat)
  | tup (xs : List PV) | lst (xs : List PV) | dct (k : Nat) (kvs : List (PV × PV)) | set (xs : List PV)
  | scr (ns : List Int)

abbrev FS := Addr → Prop
def WrL (K : PySem.W.Frag) (a : Addr) (xs : List V) : Prop :=
  ∃ (o : Obj) (its : Array Value) (n : Nat), K.lookup a = some o ∧ o.cls = .type "list" ∧ o.dict = none ∧ o.data = .seq its n ∧ its.size ≤ sizeLine ∧ Vals xs its.toList
def FzL (F : FS) (H : Hp) (a : Addr) (xs : List V) : Prop := F a ∧ H a = some (.lst xs)
/-- the script: locked, or an object of the module -/
def ScR (K : PySem.W.Frag) (F : FS) (H : Hp) (a : Addr) (xs : List V) : Prop := (F a ∧ ∃ o, H a = some (.frz o (.lst xs))) ∨ WrL K a xs
theorem ScR.seq {K : PySem.W.Frag} {F : FS} {H : Hp} {a : Addr} {xs : List V} (h : ScR K F H a xs) : SqL K H a xs := h.elim (fun ⟨_, o, z⟩ => .inl (.inr ⟨o, z⟩)) .inr
def FzT (F : FS) (H : Hp) (a : Addr) (xs : List V) : Prop := F a ∧ H a = some (.tup xs)
theorem FzL.seq {K : PySem.W.Frag} {F : FS} {H : Hp} {a : Addr} {xs : List V} (h : FzL F H a xs) : SqL K H a xs := .inl (.inl h.2)
theorem FzT.seq {K : PySem.W.Frag} {F : FS} {H : Hp} {a : Addr} {xs : List V} (h : FzT F H a xs) : SqT K H a xs := .inl (.inl h.2)

def keyOf : PV → Option Key
  | .int i => some (.inl i)
  | .str x => some (.inr ⟨x.toArray⟩)
  | _ => none
def keysOf : List PV → Option (List Key)
  | [] => some []
  | k :: r => match keyOf k, keysOf r with | some a, some b => some (a :: b) | _, _ => none
def tkeyOf : PV → Option (List Key)
  | .tup ks => keysOf ks
  | _ => none

section
variable (K : PySem.W.Frag) (F : FS) (H : Hp)
mutual
def Rep : PV → V → Prop
  | .non, v => v = .non
  | .bl b, v => v = .bl b
  | .int i, v => v = .int i
  | .str x, v => v = .str ⟨x.toArray⟩
  | .tup ds, v => ∃ a vs, v = .ref a ∧ FzT F H a vs ∧ Reps ds vs
  | .lst ds, v => ∃ a vs, v = .ref a ∧ FzL F H a vs ∧ Reps ds vs
  | .dct k kvs, v => ∃ a, v = .ref a ∧ F a ∧ ((k = 0 ∧ ∃ ks, H a = some (.dK ks) ∧ RepKs kvs ks) ∨ (k = 1 ∧ ∃ ks, H a = some (.dT ks) ∧ RepTs kvs ks))
  | .set _, _ => False
  | .scr ns, v => ∃ a, v = .ref a ∧ ScR K F H a (ns.map V.int)
def Reps : List PV → List V → Prop
  | [], vs => vs = []
  | d :: ds, vs => ∃ v r, vs = v :: r ∧ Rep d v ∧ Reps ds r
def RepKs : List (PV × PV) → List (Key × V) → Prop
  | [], ks => ks = []
  | (k, d) :: r, ks => ∃ kk v t, ks = (kk, v) :: t ∧ keyOf k = some kk ∧ Rep d v ∧ RepKs r t
def RepTs : List (PV × PV) → List (List Key × V) → Prop
  | [], ks => ks = []
  | (k, d) :: r, ks => ∃ kk v t, ks = (kk, v) :: t ∧ tkeyOf k = some kk ∧ Rep d v ∧ RepTs r t
end
end

section
variable {K : PySem.W.Frag} {F F' : FS} {H H' : Hp}
theorem Rd.keep {a : Addr} {o : HO} (hH : ∀ a o, F a → H a = some o → H' a = some o) (f : F a) (h : Rd H a o) : Rd H' a o :=
  h.elim (fun z => .inl (hH _ _ f z)) fun ⟨u, z⟩ => .inr ⟨u, hH _ _ f z⟩
theorem FzL.keep {a : Addr} {xs : List V} (hF : ∀ a, F a → F' a) (hH : ∀ a o, F a → H a = some o → H' a = some o) (h : FzL F H a xs) : FzL F' H' a xs :=
  ⟨hF _ h.1, hH _ _ h.1 h.2⟩
theorem FzT.keep {a : Addr} {xs : List V} (hF : ∀ a, F a → F' a) (hH : ∀ a o, F a → H a = some o → H' a = some o) (h : FzT F H a xs) : FzT F' H' a xs :=
  ⟨hF _ h.1, hH _ _ h.1 h.2⟩
mutual
theorem Rep.keep (hF : ∀ a, F a → F' a) (hH : ∀ a o, F a → H a = some o → H' a = some o) : ∀ (d : PV) (v : V), Rep K F H d v → Rep K F' H' d v
  | .non, _, h => h
  | .bl _, _, h => h
  | .int _, _, h => h
  | .str _, _, h => h
  | .tup ds, _, ⟨a, vs, e, f, r⟩ => ⟨a, vs, e, f.keep hF hH, Reps.keep hF hH ds vs r⟩
  | .lst ds, _, ⟨a, vs, e, f, r⟩ => ⟨a, vs, e, f.keep hF hH, Reps.keep hF hH ds vs r⟩
  | .dct k kvs, _, ⟨a, e, f, h⟩ => ⟨a, e, hF _ f, h.elim (fun ⟨e0, ks, h1, h2⟩ => .inl ⟨e0, ks, hH _ _ f h1, RepKs.keep hF hH kvs ks h2⟩) fun ⟨e0, ks, h1, h2⟩ => .inr ⟨e0, ks, hH _ _ f h1, RepTs.keep hF hH kvs ks h2⟩⟩
  | .set _, _, h => h
  | .scr _, _, ⟨a, e, h⟩ => ⟨a, e, h.elim (fun ⟨f, o, z⟩ => .inl ⟨hF _ f, o, hH _ _ f z⟩) .inr⟩
theorem Reps.keep (hF : ∀ a, F a → F' a) (hH : ∀ a o, F a → H a = some o → H' a = some o) : ∀ (ds : List PV) (vs : List V), Reps K F H ds vs → Reps K F' H' ds vs
  | [], _, h => h
  | d :: ds, _, ⟨v, r, e, h1, h2⟩ => ⟨v, r, e, Rep.keep hF hH d v h1, Reps.keep hF hH ds r h2⟩
theorem RepKs.keep (hF : ∀ a, F a → F' a) (hH : ∀ a o, F a → H a = some o → H' a = some o) : ∀ (ds : List (PV × PV)) (vs : List (Key × V)), RepKs K F H ds vs → RepKs K F' H' ds vs
  | [], _, h => h
  | (k, d) :: ds, _, ⟨kk, v, r, e, h0, h1, h2⟩ => ⟨kk, v, r, e, h0, Rep.keep hF hH d v h1, RepKs.keep hF hH ds r h2⟩
theorem RepTs.keep (hF : ∀ a, F a → F' a) (hH : ∀ a o, F a → H a = some o → H' a = some o) : ∀ (ds : List (PV × PV)) (vs : List (List Key × V)), RepTs K F H ds vs → RepTs K F' H' ds vs
  | [], _, h => h
  | (k, d) :: ds, _, ⟨kk, v, r, e, h0, h1, h2⟩ => ⟨kk, v, r, e, h0, Rep.keep hF hH d v h1, RepTs.keep hF hH ds r h2⟩
end

theorem Reps.len : ∀ {ds : List PV} {vs : List V}, Reps K F H ds vs → vs.length = ds.length
  | [], _, h => by cases h; rfl
  | _ :: _, _, ⟨v, r, e, _, h⟩ => by rw [e, List.length_cons, List.length_cons, Reps.len h]
theorem Reps.at : ∀ {ds : List PV} {vs : List V} {i : Nat} {d : PV}, Reps K F H ds vs → ds[i]? = some d → ∃ v, vs[i]? = some v ∧ Rep K F H d v
  | [], _, _, _, _, e => by simp at e
  | _ :: _, _, 0, _, ⟨v, r, e, h, _⟩, q => by simp at q; subst q; exact ⟨v, by rw [e]; rfl, h⟩
  | _ :: _, _, i + 1, _, ⟨v, r, e, _, h⟩, q => by
    obtain ⟨w, h1, h2⟩ := Reps.at (i := i) h (by simpa using q)
    exact ⟨w, by rw [e]; simpa using h1, h2⟩
theorem Reps.at' : ∀ {ds : List PV} {vs : List V} {i : Nat} {v : V}, Reps K F H ds vs → vs[i]? = some v → ∃ d, ds[i]? = some d ∧ Rep K F H d v
  | [], _, _, _, h, e => by cases h; simp at e
  | d :: _, _, 0, _, ⟨v, r, e, h, _⟩, q => by rw [e] at q; simp at q; subst q; exact ⟨d, rfl, h⟩
  | _ :: _, _, i + 1, _, ⟨v, r, e, _, h⟩, q => by
    rw [e] at q
    obtain ⟨w, h1, h2⟩ := Reps.at' (i := i) h (by simpa using q)
    exact ⟨w, by simpa using h1, h2⟩
theorem Reps.app : ∀ {ds es : List PV} {vs ws : List V}, Reps K F H ds vs → Reps K F H es ws → Reps K F H (ds ++ es) (vs ++ ws)
  | [], _, _, _, h, g => by cases h; exact g
  | _ :: _, _, _, _, ⟨v, r, e, h1, h2⟩, g => ⟨v, r ++ _, by rw [e]; rfl, h1, Reps.app h2 g⟩
theorem Reps.one {d : PV} {v : V} (h : Rep K F H d v) : Reps K F H [d] [v] := ⟨v, [], rfl, h, rfl⟩
theorem Reps.set : ∀ {ds : List PV} {vs : List V} (i : Nat) {d : PV} {v : V}, Reps K F H ds vs → Rep K F H d v → Reps K F H (ds.set i d) (vs.set i v)
  | [], _, _, _, _, h, _ => by cases h; exact rfl
  | _ :: _, _, 0, _, _, ⟨v, r, e, _, h⟩, g => ⟨_, r, by rw [e]; rfl, g, h⟩
  | _ :: _, _, i + 1, _, _, ⟨v, r, e, h1, h⟩, g => ⟨v, _, by rw [e]; rfl, h1, Reps.set i h g⟩
theorem Reps.drop : ∀ {ds : List PV} {vs : List V} (n : Nat), Reps K F H ds vs → Reps K F H (ds.drop n) (vs.drop n)
  | _, _, 0, h => h
  | [], _, n + 1, h => by cases h; exact rfl
  | _ :: _, _, n + 1, ⟨v, r, e, _, h⟩ => by rw [e]; exact Reps.drop n h
theorem Reps.take : ∀ {ds : List PV} {vs : List V} (n : Nat), Reps K F H ds vs → Reps K F H (ds.take n) (vs.take n)
  | _, _, 0, h => rfl
  | [], _, n + 1, h => by cases h; exact rfl
  | _ :: _, _, n + 1, ⟨v, r, e, h1, h⟩ => by rw [e]; exact ⟨v, _, rfl, h1, Reps.take n h⟩
theorem Reps.rep (n : Nat) {ds : List PV} {vs : List V} (h : Reps K F H ds vs) : Reps K F H (List.replicate n ds).flatten (List.replicate n vs).flatten := by
  induction n with
  | zero => exact rfl
  | succ n ih =>
    rw [List.replicate_succ, List.replicate_succ, List.flatten_cons, List.flatten_cons]
    exact h.app ih
theorem Reps.init : ∀ {ds : List PV} {vs : List V}, Reps K F H ds vs → Reps K F H ds.dropLast vs.dropLast
  | ds, vs, h => by
    rw [List.dropLast_eq_take, List.dropLast_eq_take, h.len]
    exact h.take _

/-- a mutable object that one place alone holds -/
def OwnAt (K : PySem.W.Frag) (F : FS) (H : Hp) (d : PV) (a : Addr) : Prop := ¬ F a ∧ match d with
  | .lst ds => ∃ vs, H a = some (.lst vs) ∧ Reps K F H ds vs
  | .dct k kvs => (k = 0 ∧ ∃ ks, H a = some (.dK ks) ∧ RepKs K F H kvs ks) ∨ (k = 1 ∧ ∃ ks, H a = some (.dT ks) ∧ RepTs K F H kvs ks)
  | _ => False
theorem OwnAt.live {d : PV} {a : Addr} (h : OwnAt K F H d a) : ∃ o, H a = some o := by
  obtain ⟨_, h⟩ := h
  cases d <;> first | exact h.elim | skip
  · obtain ⟨vs, h, _⟩ := h; exact ⟨_, h⟩
  · rcases h with ⟨_, ks, h, _⟩ | ⟨_, ks, h, _⟩ <;> exact ⟨_, h⟩
theorem OwnAt.keep {d : PV} {a : Addr} (hF : ∀ a, F a → F' a) (hH : ∀ a o, F a → H a = some o → H' a = some o) (na : ¬ F' a) (e : H' a = H a) (h : OwnAt K F H d a) : OwnAt K F' H' d a := by
  obtain ⟨_, h⟩ := h
  refine ⟨na, ?_⟩
  cases d <;> first | exact h.elim | skip
  · obtain ⟨vs, h1, h2⟩ := h; exact ⟨vs, e.trans h1, Reps.keep hF hH _ _ h2⟩
  · rcases h with ⟨e0, ks, h1, h2⟩ | ⟨e0, ks, h1, h2⟩
    · exact .inl ⟨e0, ks, e.trans h1, RepKs.keep hF hH _ _ h2⟩
    · exact .inr ⟨e0, ks, e.trans h1, RepTs.keep hF hH _ _ h2⟩
/-- from now on shared -/
def addF (F : FS) (a : Addr) : FS := fun b => F b ∨ b = a
theorem OwnAt.freeze {d : PV} {a : Addr} (h : OwnAt K F H d a) : Rep K (addF F a) H d (.ref a) := by
  obtain ⟨_, h⟩ := h
  have hF : ∀ b, F b → addF F a b := fun b => .inl
  have hH : ∀ b o, F b → H b = some o → H b = some o := fun _ _ _ z => z
  cases d <;> first | exact h.elim | skip
  · obtain ⟨vs, h1, h2⟩ := h; exact ⟨a, vs, rfl, ⟨.inr rfl, h1⟩, Reps.keep hF hH _ _ h2⟩
  · refine ⟨a, rfl, .inr rfl, ?_⟩
    rcases h with ⟨e0, ks, h1, h2⟩ | ⟨e0, ks, h1, h2⟩
    · exact .inl ⟨e0, ks, h1, RepKs.keep hF hH _ _ h2⟩
    · exact .inr ⟨e0, ks, h1, RepTs.keep hF hH _ _ h2⟩
end

/-! ### slots -/
/-- shared; owned; a parameter that the caller owns; such a one that has become shared; lent to a loop that walks it -/
inductive Stt where
  | sh | own | par | frp | lnt
  deriving DecidableEq
def Stt.mut : Stt → Bool
  | .own => true
  | .par => true
  | _ => false
def Stt.pin : Stt → Bool
  | .par => true
  | .frp => true
  | .lnt => true
  | _ => false
def Stt.shr : Stt → Bool
  | .sh => true
  | .frp => true
  | _ => false
abbrev Slot := Option (Stt × PV)
abbrev Rho := List Slot

def OwnA (ρ : Rho) (σ : L2.St) (a : Addr) : Prop := ∃ (i : Nat) (s : Stt) (d : PV), ρ[i]? = some (some (s, d)) ∧ s.mut = true ∧ σ[i]? = some (some (.ref a))

structure Rel (K : PySem.W.Frag) (F : FS) (H : Hp) (ρ : Rho) (σ : L2.St) : Prop where
  len : ρ.length = σ.length
  ft : ∀ a, F a → H a ≠ none
  rd : ∀ (i : Nat) s d, ρ[i]? = some (some (s, d)) → s.shr = true → ∃ v, σ[i]? = some (some v) ∧ Rep K F H d v
  ow : ∀ (i : Nat) s d, ρ[i]? = some (some (s, d)) → s.mut = true → ∃ a, σ[i]? = some (some (.ref a)) ∧ OwnAt K F H d a
  ap : ∀ (i j : Nat) s d s' d' a, ρ[i]? = some (some (s, d)) → s.mut = true → ρ[j]? = some (some (s', d')) → s'.mut = true → σ[i]? = some (some (.ref a)) → σ[j]? = some (some (.ref a)) → i = j

structure Step (F : FS) (H : Hp) (ρ : Rho) (σ : L2.St) (F' : FS) (H' : Hp) (ρ' : Rho) (σ' : L2.St) : Prop where
  fr : ∀ a o, H a = some o → ¬ OwnA ρ σ a → H' a = some o
  al : ∀ a, H' a = none → H a = none
  ff : ∀ a, F a → F' a
  fn : ∀ a, F' a → F a ∨ H a = none ∨ OwnA ρ σ a
  ow : ∀ a, OwnA ρ' σ' a → OwnA ρ σ a ∨ H a = none
  pn : ∀ (i : Nat) s d, ρ'[i]? = some (some (s, d)) → s.pin = true → σ'[i]? = σ[i]? ∧ ∃ s0 d0, ρ[i]? = some (some (s0, d0)) ∧ s0.pin = true ∧ (s = s0 ∨ s = .frp)

section
variable {K : PySem.W.Frag} {F F' F'' : FS} {H H' H'' : Hp} {ρ ρ' ρ'' : Rho} {σ σ' σ'' : L2.St}
theorem Rel.notF (r : Rel K F H ρ σ) {a : Addr} (h : OwnA ρ σ a) : ¬ F a ∧ H a ≠ none := by
  obtain ⟨i, s, d, h1, h2, h3⟩ := h
  obtain ⟨b, h4, h5⟩ := r.ow i s d h1 h2
  rw [h3] at h4
  cases h4
  refine ⟨h5.1, ?_⟩
  obtain ⟨o, q⟩ := h5.live
  rw [q]; simp
/-- shared things stand -/
theorem Step.keep (r : Rel K F H ρ σ) (s : Step F H ρ σ F' H' ρ' σ') : ∀ a o, F a → H a = some o → H' a = some o :=
  fun a o f e => s.fr a o e fun h => (r.notF h).1 f
theorem Step.refl : Step F H ρ σ F H ρ σ := ⟨fun _ _ h _ => h, fun _ h => h, fun _ h => h, fun _ h => .inl h, fun _ h => .inl h, fun i s d h p => ⟨rfl, s, d, h, p, .inl rfl⟩⟩
theorem Step.trans (a : Step F H ρ σ F' H' ρ' σ') (b : Step F' H' ρ' σ' F'' H'' ρ'' σ'') : Step F H ρ σ F'' H'' ρ'' σ'' where
  fr := fun x o h n => b.fr x o (a.fr x o h n) fun q => (a.ow x q).elim n fun z => by rw [h] at z; cases z
  al := fun x h => a.al x (b.al x h)
  ff := fun x h => b.ff x (a.ff x h)
  fn := fun x h => (b.fn x h).elim (a.fn x) fun z => z.elim (fun z => .inr (.inl (a.al x z))) fun z => (a.ow x z).elim (fun z => .inr (.inr z)) fun z => .inr (.inl z)
  ow := fun x h => (b.ow x h).elim (a.ow x) fun z => .inr (a.al x z)
  pn := fun i s d h p => by
    obtain ⟨e, s0, d0, h0, p0, q0⟩ := b.pn i s d h p
    obtain ⟨e1, s1, d1, h1, p1, q1⟩ := a.pn i s0 d0 h0 p0
    refine ⟨e.trans e1, s1, d1, h1, p1, ?_⟩
    rcases q0 with rfl | q0
    · exact q1
    · exact .inr q0
/-- of an expression: the slots' values stay, no slot comes to own -/
def EStep (F : FS) (H : Hp) (ρ : Rho) (σ : L2.St) (F' : FS) (H' : Hp) (ρ' : Rho) : Prop :=
  Step F H ρ σ F' H' ρ' σ ∧ ∀ (i : Nat) s d, ρ'[i]? = some (some (s, d)) → s.mut = true → ∃ d0, ρ[i]? = some (some (s, d0))
theorem EStep.refl : EStep F H ρ σ F H ρ := ⟨.refl, fun _ _ d h _ => ⟨d, h⟩⟩
theorem EStep.trans (a : EStep F H ρ σ F' H' ρ') (b : EStep F' H' ρ' σ F'' H'' ρ'') : EStep F H ρ σ F'' H'' ρ'' :=
  ⟨a.1.trans b.1, fun i s d h m => by
    obtain ⟨d0, h0⟩ := b.2 i s d h m
    exact a.2 i s d0 h0 m⟩
theorem EStep.owns (a : EStep F H ρ σ F' H' ρ') {x : Addr} (h : OwnA ρ' σ x) : OwnA ρ σ x := by
  obtain ⟨i, s, d, h1, h2, h3⟩ := h
  obtain ⟨d0, h0⟩ := a.2 i s d h1 h2
  exact ⟨i, s, d0, h0, h2, h3⟩

/-- a new object is laid (it belongs to nothing yet) -/
theorem Rel.lay (r : Rel K F H ρ σ) {p : Addr} (hp : H p = none) (o : HO) : Rel K F (upd H p o) ρ σ := by
  have ne : ∀ a u, H a = some u → a ≠ p := fun a u h z => by subst z; rw [hp] at h; cases h
  have kp : ∀ a u, F a → H a = some u → upd H p o a = some u := fun a u _ h => by rw [upd_ne (ne a u h)]; exact h
  refine ⟨r.len, fun a f => ?_, fun i s d h m => ?_, fun i s d h m => ?_, r.ap⟩
  · have := r.ft a f
    by_cases e : a = p
    · subst e; rw [upd_same]; simp
    · rw [upd_ne e]; exact this
  · obtain ⟨v, h1, h2⟩ := r.rd i s d h m
    exact ⟨v, h1, h2.keep (fun _ z => z) kp⟩
  · obtain ⟨a, h1, h2⟩ := r.ow i s d h m
    obtain ⟨u, q⟩ := h2.live
    exact ⟨a, h1, h2.keep (fun _ z => z) kp h2.1 (by rw [upd_ne (ne a u q)])⟩
theorem EStep.lay (r : Rel K F H ρ σ) {p : Addr} (hp : H p = none) (o : HO) : EStep F H ρ σ F (upd H p o) ρ := by
  have ne : ∀ a u, H a = some u → a ≠ p := fun a u h z => by subst z; rw [hp] at h; cases h
  refine ⟨⟨fun a u h _ => by rw [upd_ne (ne a u h)]; exact h, fun a h => ?_, fun _ z => z, fun _ z => .inl z, fun _ z => .inl z, fun i s d h p => ⟨rfl, s, d, h, p, .inl rfl⟩⟩, fun _ _ d h _ => ⟨d, h⟩⟩
  by_cases e : a = p
  · subst e; rw [upd_same] at h; cases h
  · rw [upd_ne e] at h; exact h
/-- an object that no slot owns becomes shared -/
theorem Rel.share (r : Rel K F H ρ σ) {p : Addr} (hp : H p ≠ none) (no : ¬ OwnA ρ σ p) : Rel K (addF F p) H ρ σ := by
  have hF : ∀ a, F a → addF F p a := fun _ => .inl
  refine ⟨r.len, fun a f => f.elim (r.ft a) fun e => by rw [e]; exact hp, fun i s d h m => ?_, fun i s d h m => ?_, r.ap⟩
  · obtain ⟨v, h1, h2⟩ := r.rd i s d h m
    exact ⟨v, h1, h2.keep hF fun _ _ _ z => z⟩
  · obtain ⟨a, h1, h2⟩ := r.ow i s d h m
    refine ⟨a, h1, h2.keep hF (fun _ _ _ z => z) ?_ rfl⟩
    rintro (f | e)
    · exact h2.1 f
    · subst e; exact no ⟨i, s, d, h, m, h1⟩
theorem EStep.share {F0 : FS} {H0 : Hp} {ρ0 : Rho} {p : Addr} (h0 : ∀ q, q = p → H0 q = none ∨ OwnA ρ0 σ q) (s : EStep F0 H0 ρ0 σ F H ρ) : EStep F0 H0 ρ0 σ (addF F p) H ρ :=
  ⟨⟨s.1.fr, s.1.al, fun a f => .inl (s.1.ff a f), fun a f => f.elim (s.1.fn a) fun e => .inr (h0 a e), s.1.ow, s.1.pn⟩, s.2⟩
end
end Cw
set_option Elab.async false
set_option linter.all false
set_option maxRecDepth 100000
set_option maxHeartbeats 4000000
set_option autoImplicit false
/-! Cw, part B: the small language and its evaluator -/
namespace Cw
open PySem L2

/-- what a run gives: a value and the slots; an exception (class, its argument) and the slots; or: nothing is said -/
inductive R (α : Type) where
  | ok (a : α) (ρ : Rho)
  | exc (c : Nat) (x : PV) (ρ : Rho)
  | bad
def R.bind {α β : Type} : R α → (α → Rho → R β) → R β
  | .ok a ρ, f => f a ρ
  | .exc c x ρ, _ => .exc c x ρ
  | .bad, _ => .bad
@[simp] theorem R.bind_ok {α β : Type} (a : α) (ρ : Rho) (f : α → Rho → R β) : (R.ok a ρ).bind f = f a ρ := rfl
@[simp] theorem R.bind_exc {α β : Type} (c : Nat) (x : PV) (ρ : Rho) (f : α → Rho → R β) : (R.exc c x ρ : R α).bind f = .exc c x ρ := rfl
@[simp] theorem R.bind_bad {α β : Type} (f : α → Rho → R β) : (R.bad : R α).bind f = .bad := rfl
/-- an optional value -/
def R.opt {α : Type} (o : Option α) (ρ : Rho) : R α := match o with | some a => .ok a ρ | none => .bad
@[simp] theorem R.opt_some {α : Type} (a : α) (ρ : Rho) : R.opt (some a) ρ = .ok a ρ := rfl
@[simp] theorem R.opt_none {α : Type} (ρ : Rho) : R.opt (none : Option α) ρ = .bad := rfl

inductive BOp where | add | sub | mul | fdiv | mod | pow | shl | shr
  deriving DecidableEq
inductive COp where | lt | le | gt | ge | eq | ne | isin | notin
  deriving DecidableEq
inductive Bi where | len | abs | all | any | sum | tuple | list | int | sorted | set | max | min | repr | str
  deriving DecidableEq
inductive Mi where | append | extend | pop | update
  deriving DecidableEq
/-- what is walked: a list or tuple (its name, if it is one, becomes shared); the same, lent by its name meanwhile; range; zip; enumerate -/
inductive Ik where | seq | lend | range1 | range2 | zip | enum
  deriving DecidableEq

inductive Tg where
  | name (i : Nat)
  | tup (ts : List Tg)
inductive IE where
  | cst (v : PV)
  | var (i : Nat)
  | gint (x : Str) (v : Int)
  | tup (es : List IE)
  | tupS (e : IE) (es : List IE)
  | lst (es : List IE)
  | bin (op : BOp) (a b : IE)
  | neg (a : IE)
  | not (a : IE)
  | isN (neg : Bool) (a : IE)
  | cmp (op : COp) (a b : IE)
  | chain (op1 op2 : COp) (a b c : IE)
  | and (a b : IE)
  | or (a b : IE)
  | ite (c a b : IE)
  | idx (a i : IE)
  | slc (a lo hi : IE)
  | call (f : Nat) (es : List IE)
  | cals (fs : List Nat) (i : IE) (es : List IE)
  | blt (b : Bi) (e : IE)
  | bltn (b : Bi) (es : List IE)
  | met (m : Mi) (i : Nat) (es : List IE)
  | lcp (own : List Nat) (tg : Tg) (ik : Ik) (its : List IE) (conds : List IE) (elt : IE)
  | lcp2 (own own2 : List Nat) (tg : Tg) (ik : Ik) (its : List IE) (tg2 : Tg) (ik2 : Ik) (its2 : List IE) (conds2 : List IE) (elt : IE)
  | dsp (k : Nat) (es : List IE)
  | sset (e : IE)
inductive IS where
  | ex (e : IE)
  | asg (tg : Tg) (e : IE)
  | asgs (is : List Nat) (es : List IE)
  | aug (i : Nat) (op : BOp) (e : IE)
  | seti (i : Nat) (ix e : IE)
  | ifs (c : IE) (a b : List IS)
  | whl (c : IE) (b : List IS)
  | for_ (tg : Tg) (ik : Ik) (its : List IE) (b : List IS)
  | ret (e : IE)
  | retN
  | raise (c : Nat)
  | tryErr (i : Nat) (b : List IS)
  | brk | cnt | pass

/-! ### slots -/
def getV (i : Nat) (ρ : Rho) : R (Bool × PV) := match ρ[i]? with
  | some (some (.sh, d)) => .ok (false, d) ρ
  | some (some (.frp, d)) => .ok (false, d) ρ
  | some (some (.own, d)) => .ok (false, d) (ρ.set i (some (.sh, d)))
  | some (some (.par, d)) => .ok (false, d) (ρ.set i (some (.frp, d)))
  | _ => .bad
def peekV (i : Nat) (ρ : Rho) : R (Bool × PV) := match ρ[i]? with
  | some (some (.lnt, _)) => .bad
  | some (some (_, d)) => .ok (false, d) ρ
  | _ => .bad
/-- a value that is looked at at once and kept by nothing -/
def pk (e : IE) (r : R (Bool × PV)) (ρ : Rho) : R (Bool × PV) := match e with
  | .var i => peekV i ρ
  | _ => r
/-- the same value later -/
def rpk (e : IE) (d : PV) (ρ : Rho) : Option PV := match e with
  | .var i => match ρ[i]? with
    | some (some (.lnt, _)) => none
    | some (some (_, d')) => some d'
    | _ => none
  | _ => some d
/-- a new value at a name -/
def setV (i : Nat) (fr : Bool) (d : PV) (ρ : Rho) : R Unit := match ρ[i]? with
  | some (some (.par, _)) => .bad
  | some (some (.frp, _)) => .bad
  | some (some (.lnt, _)) => .bad
  | some _ => .ok () (ρ.set i (some (if fr then .own else .sh, d)))
  | none => .bad
def setMut (i : Nat) (d : PV) (ρ : Rho) : R Unit := match ρ[i]? with
  | some (some (.own, _)) => .ok () (ρ.set i (some (.own, d)))
  | some (some (.par, _)) => .ok () (ρ.set i (some (.par, d)))
  | _ => .bad
def seqOf : PV → Option (List PV)
  | .tup xs => some xs
  | .lst xs => some xs
  | _ => none
mutual
def Tg.ids : Tg → List Nat
  | .name i => [i]
  | .tup ts => Tg.idss ts
def Tg.idss : List Tg → List Nat
  | [] => []
  | t :: ts => t.ids ++ Tg.idss ts
end
mutual
def bindT : Tg → PV → Rho → R Unit
  | .name i, d, ρ => setV i false d ρ
  | .tup ts, d, ρ => match d with
    | .tup ds => if ds.length = ts.length then bindTs ts ds ρ else .bad
    | _ => .bad
def bindTs : List Tg → List PV → Rho → R Unit
  | [], _, ρ => .ok () ρ
  | t :: ts, d :: ds, ρ => (bindT t d ρ).bind fun _ ρ1 => bindTs ts ds ρ1
  | _ :: _, [], _ => .bad
end

/-! ### values -/
def truth : PV → Option Bool
  | .non => some false
  | .bl b => some b
  | .int i => some (i != 0)
  | .str x => if x.length ≤ 16777216 then some (x.length != 0) else none
  | .tup xs => some (!xs.isEmpty)
  | .lst xs => some (!xs.isEmpty)
  | .dct k kvs => if k = 0 then some (!kvs.isEmpty) else none
  | .set _ => none
  | .scr _ => none
mutual
def toPD : PV → PyData
  | .non => .none
  | .bl b => .bool b
  | .int i => .int i
  | .str x => .str ⟨x.toArray⟩
  | .tup xs => .tuple (toPDs xs)
  | .lst xs => .list (toPDs xs)
  | .dct _ _ => .none
  | .set _ => .none
  | .scr _ => .none
def toPDs : List PV → List PyData
  | [] => []
  | x :: xs => toPD x :: toPDs xs
end
mutual
/-- no dict, no set within -/
def plain : PV → Bool
  | .tup xs => plains xs
  | .lst xs => plains xs
  | .dct _ _ => false
  | .set _ => false
  | .scr _ => false
  | _ => true
def plains : List PV → Bool
  | [] => true
  | x :: xs => plain x && plains xs
end
/-- == may be asked -/
def eqOk (d : PV) : Bool := plain d && SeqAt.shaped (toPD d)
def eqV' (d e : PV) : Bool := PyData.eqv (toPD d) (toPD e)
def isNon : PV → Bool
  | .non => true
  | _ => false
def isScal : PV → Bool
  | .non => true
  | .bl _ => true
  | .int _ => true
  | .str _ => true
  | _ => false
/-- == of two scalars -/
def eqS : PV → PV → Bool
  | .non, .non => true
  | .bl a, .bl b => a == b
  | .bl a, .int b => (if a then 1 else 0) == b
  | .int a, .bl b => a == (if b then 1 else 0)
  | .int a, .int b => a == b
  | .str a, .str b => a == b
  | _, _ => false
/-- .. that the machine's word for scalars serves -/
def eqS? : PV → PV → Option Bool
  | .non, .non => some true
  | .bl a, .bl b => some (a == b)
  | .int a, .int b => some (a == b)
  | .str a, .str b => some (a == b)
  | .int _, .str _ => some false
  | .str _, .int _ => some false
  | .bl _, .str _ => some false
  | .str _, .bl _ => some false
  | .non, .int _ => some false
  | .int _, .non => some false
  | .non, .str _ => some false
  | .str _, .non => some false
  | .non, .bl _ => some false
  | .bl _, .non => some false
  | _, _ => none
mutual
/-- keys of a dict -/
def keyEq : PV → PV → Bool
  | .int a, .int b => a == b
  | .str a, .str b => a == b
  | .tup a, .tup b => keysEq a b
  | _, _ => false
def keysEq : List PV → List PV → Bool
  | [], [] => true
  | a :: as, b :: bs => keyEq a b && keysEq as bs
  | _, _ => false
end
def dGet (kvs : List (PV × PV)) (k : PV) : Option PV := (kvs.find? fun kv => keyEq kv.1 k).map (·.2)
/-- the key is of the dict's kind -/
def keyFit : Nat → PV → Bool
  | 0, k => (keyOf k).isSome
  | 1, k => (tkeyOf k).isSome
  | _, _ => false
def dPut (kvs : List (PV × PV)) (k v : PV) : List (PV × PV) :=
  if (kvs.any fun kv => keyEq kv.1 k) = true then kvs.map (fun kv => if keyEq kv.1 k = true then (kv.1, v) else kv) else kvs ++ [(k, v)]

def binV : BOp → PV → PV → Option (Bool × PV)
  | .add, .int i, .int j => some (false, .int (i + j))
  | .sub, .int i, .int j => some (false, .int (i - j))
  | .mul, .int i, .int j => if (-(2 ^ 64) < i ∧ i < 2 ^ 64) ∨ (-(2 ^ 64) < j ∧ j < 2 ^ 64) then some (false, .int (i * j)) else none
  | .fdiv, .int i, .int j => if j ≠ 0 ∧ j.natAbs < 1073741824 then some (false, .int (i.fdiv j)) else none
  | .mod, .int i, .int j => if j ≠ 0 then some (false, .int (i.fmod j)) else none
  | .pow, .int i, .int j => if 0 ≤ j ∧ j ≤ 1000000 ∧ i.natAbs < 2 ^ 64 then some (false, .int (i ^ j.toNat)) else none
  | .add, .tup xs, .tup ys => if xs.length + ys.length ≤ 16777216 then some (false, .tup (xs ++ ys)) else none
  | .add, .lst xs, .lst ys => if xs.length + ys.length ≤ 16777216 then some (true, .lst (xs ++ ys)) else none
  | .add, .str xs, .str ys => if xs.length + ys.length ≤ 16777216 then some (false, .str (xs ++ ys)) else none
  | .mul, .tup xs, .int k => if -(2 ^ 63) ≤ k ∧ k ≤ 1000 ∧ xs.length ≤ 1000 ∧ xs ≠ [] then some (false, .tup (List.replicate k.toNat xs).flatten) else none
  | .mul, .lst xs, .int k => if -(2 ^ 63) ≤ k ∧ k < 2 ^ 63 ∧ xs.length * k.toNat ≤ 16777216 then some (true, .lst (List.replicate k.toNat xs).flatten) else none
  | _, _, _ => none
def cmpV : COp → PV → PV → Option Bool
  | .lt, .int i, .int j => some (decide (i < j))
  | .le, .int i, .int j => some (decide (i ≤ j))
  | .gt, .int i, .int j => some (decide (j < i))
  | .ge, .int i, .int j => some (decide (j ≤ i))
  | .eq, a, b => match eqS? a b with | some c => some c | none => if eqOk a && eqOk b then some (eqV' a b) else none
  | .ne, a, b => match eqS? a b with | some c => some (!c) | none => if eqOk a && eqOk b then some (!eqV' a b) else none
  | .isin, x, .dct k kvs => if keyFit k x = true then some (dGet kvs x).isSome else none
  | .notin, x, .dct k kvs => if keyFit k x = true then some (!(dGet kvs x).isSome) else none
  | .isin, x, .tup ys => if isScal x && ys.all isScal then some (ys.any fun y => eqS y x) else none
  | .notin, x, .tup ys => if isScal x && ys.all isScal then some (!(ys.any fun y => eqS y x)) else none
  | .isin, x, .lst ys => if isScal x && ys.all isScal then some (ys.any fun y => eqS y x) else if eqOk x && eqOk (.lst ys) then some (ys.any fun y => eqV' y x) else none
  | .notin, x, .lst ys => if isScal x && ys.all isScal then some (!(ys.any fun y => eqS y x)) else if eqOk x && eqOk (.lst ys) then some (!(ys.any fun y => eqV' y x)) else none
  | _, _, _ => none
/-- the place of an index -/
def ixAt {α : Type} (xs : List α) (i : Int) : Option α := if 0 ≤ i then (if i < xs.length then xs[i.toNat]? else none) else if -(xs.length : Int) ≤ i then xs[(i + xs.length).toNat]? else none
def idxV : PV → PV → Option PV
  | .tup xs, .int i => ixAt xs i
  | .lst xs, .int i => ixAt xs i
  | .dct kd kvs, k => if keyFit kd k = true then dGet kvs k else none
  | _, _ => none
def cutP (xs : List PV) (lo hi : Option Int) : List PV := (xs.drop (HT.sIx xs.length 0 lo)).take (HT.sIx xs.length xs.length hi - HT.sIx xs.length 0 lo)
def slcV (d : PV) (lo hi : Option Int) : Option (Bool × PV) := match d with
  | .tup xs => some (false, .tup (cutP xs lo hi))
  | .lst xs => some (true, .lst (cutP xs lo hi))
  | .scr ns => some (true, .lst (cutP (ns.map .int) lo hi))
  | _ => none
def allInt : List PV → Option (List Int)
  | [] => some []
  | .int i :: r => (allInt r).map (i :: ·)
  | _ => none
def allBl : List PV → Option (List Bool)
  | [] => some []
  | .bl i :: r => (allBl r).map (i :: ·)
  | _ => none
def insI (i : Int) : List Int → List Int
  | [] => [i]
  | j :: r => if i ≤ j then i :: j :: r else j :: insI i r
def srtI : List Int → List Int
  | [] => []
  | i :: r => insI i (srtI r)
def dedupI : List Int → List Int
  | [] => []
  | i :: r => if r.contains i then dedupI r else i :: dedupI r
def strOf (x : Str) : List Nat := x.cps.toList
def bltV : Bi → List PV → Option (Bool × PV)
  | .len, [.tup xs] => some (false, .int xs.length)
  | .len, [.lst xs] => some (false, .int xs.length)
  | .len, [.dct 0 xs] => some (false, .int xs.length)
  | .len, [.str xs] => if xs.length ≤ 16777216 then some (false, .int xs.length) else none
  | .abs, [.int i] => some (false, .int (if i < 0 then -i else i))
  | .all, [.lst xs] => (allBl xs).map fun bs => (false, .bl (bs.all id))
  | .any, [.lst xs] => (allBl xs).map fun bs => (false, .bl (bs.any id))
  | .sum, [.lst xs] => (allInt xs).map fun ns => (false, .int ns.sum)
  | .tuple, [.lst xs] => some (false, .tup xs)
  | .tuple, [.tup xs] => some (false, .tup xs)
  | .list, [.lst xs] => some (true, .lst xs)
  | .list, [.tup xs] => some (true, .lst xs)
  | .int, [.int i] => some (false, .int i)
  | .int, [.bl b] => some (false, .int (if b then 1 else 0))
  | .max, [.int i, .int j] => some (false, .int (if j > i then j else i))
  | .min, [.int i, .int j] => some (false, .int (if j < i then j else i))
  | .sorted, [.lst xs] => (allInt xs).map fun ns => (true, .lst ((srtI ns).map .int))
  | .sorted, [.dct 0 kvs] => (allInt (kvs.map (·.1))).bind fun ns => if ns.length < 64 then some (true, .lst ((srtI ns).map .int)) else none
  | .repr, [d] => if (seqOf d).isSome && plain d && (toPD d).showable && decide ((toPD d).depth ≤ 64) && decide ((toPD d).shown.length ≤ 16777216) then some (false, .str (strOf (toPD d).shown)) else none
  | _, _ => none
/-- sorted(set(xs)), a list of ints -/
def ssetV : PV → Option (Bool × PV)
  | .lst xs => (allInt xs).bind fun ns => if ns.length < 64 then some (true, .lst ((srtI (dedupI ns)).map .int)) else none
  | _ => none
/-- a method of a mutable object: what comes back (new or not), what the object is now -/
def metV : Mi → PV → List PV → Option ((Bool × PV) × PV)
  | .append, .lst xs, [y] => if xs.length < 16777216 then some ((false, .non), .lst (xs ++ [y])) else none
  | .extend, .lst xs, [.lst ys] => if xs.length + ys.length ≤ 16777216 then some ((false, .non), .lst (xs ++ ys)) else none
  | .extend, .lst xs, [.tup ys] => if xs.length + ys.length ≤ 16777216 then some ((false, .non), .lst (xs ++ ys)) else none
  | .pop, .lst xs, [] => match xs.getLast? with | some y => some ((false, y), .lst xs.dropLast) | none => none
  | .update, .dct 0 kvs, [.dct 0 more] => if kvs.length + more.length ≤ 16777216 then some ((false, .non), .dct 0 (more.foldl (fun acc kv => dPut acc kv.1 kv.2) kvs)) else none
  | _, _, _ => none
/-- the object is one that has the method -/
def metK : Mi → PV → Bool
  | .update, .dct 0 _ => true
  | .append, .lst _ => true
  | .extend, .lst _ => true
  | .pop, .lst _ => true
  | _, _ => false
def setI : PV → PV → PV → Option PV
  | .lst xs, .int i, v => if 0 ≤ i then (if i < xs.length then some (.lst (xs.set i.toNat v)) else none) else if -(xs.length : Int) ≤ i then some (.lst (xs.set (i + xs.length).toNat v)) else none
  | .dct kd kvs, k, v => if keyFit kd k = true ∧ kvs.length < 16777216 then some (.dct kd (dPut kvs k v)) else none
  | _, _, _ => none
def pairs : List PV → List PV → List PV
  | x :: xs, y :: ys => .tup [x, y] :: pairs xs ys
  | _, _ => []
def enumF (n : Nat) : List PV → List PV
  | [] => []
  | x :: xs => .tup [.int n, x] :: enumF (n + 1) xs
def itV : Ik → List PV → Option (List PV)
  | .seq, [d] => seqOf d
  | .lend, [d] => seqOf d
  | .range1, [.int j] => if -(2 ^ 62) ≤ j ∧ j < 2 ^ 62 then some ((List.range j.toNat).map fun k : Nat => .int (k : Int)) else none
  | .range2, [.int i, .int j] => if (-(2 ^ 62) ≤ i ∧ i < 2 ^ 62) ∧ (-(2 ^ 62) ≤ j ∧ j < 2 ^ 62) then some ((List.range (j - i).toNat).map fun k : Nat => .int (i + (k : Int))) else none
  | .zip, [.lst xs, .lst ys] => some (pairs xs ys)
  | .zip, [.tup xs, .tup ys] => some (pairs xs ys)
  | .zip, [.tup xs, .lst ys] => some (pairs xs ys)
  | .enum, [.lst xs] => some (enumF 0 xs)
  | _, _ => none

/-! ### calls -/
inductive ATok where | val (d : PV) | slot (i : Nat)
inductive CR where
  | ok (fr : Bool) (d : PV) (outs : List Slot)
  | exc (c : Nat) (x : PV)
  | bad
abbrev CallSem := Nat → List Slot → CR
def tk (e : IE) (r : R (Bool × PV)) (ρ : Rho) : R ATok := match e with
  | .var i => match ρ[i]? with
    | some (some (.lnt, _)) => .bad
    | some (some (s, d)) => .ok (if s.mut then .slot i else .val d) ρ
    | _ => .bad
  | _ => r.bind fun fd ρ1 => .ok (.val fd.2) ρ1
def argSlot (ρ : Rho) : ATok → Option Slot
  | .val d => some (some (.sh, d))
  | .slot i => match ρ[i]? with
    | some (some (.lnt, _)) => none
    | some (some (s, d)) => some (some (if s.mut then .par else .sh, d))
    | _ => none
def argSlots (ρ : Rho) : List ATok → Option (List Slot)
  | [] => some []
  | t :: ts => match argSlot ρ t, argSlots ρ ts with | some a, some b => some (a :: b) | _, _ => none
def slotIxs : List ATok → List Nat
  | [] => []
  | .val _ :: ts => slotIxs ts
  | .slot i :: ts => i :: slotIxs ts
def Stt.frz : Stt → Stt
  | .own => .sh
  | .par => .frp
  | s => s
def putBack1 (i : Nat) (o : Slot) (ρ : Rho) : Rho := match ρ[i]? with
  | some (some (s, _)) => if s.mut then (match o with
      | some (.par, d) => ρ.set i (some (s, d))
      | some (.frp, d) => ρ.set i (some (s.frz, d))
      | _ => ρ.set i none) else ρ
  | _ => ρ
def putBack : List ATok → List Slot → Rho → Rho
  | .slot i :: ts, o :: os, ρ => putBack ts os (putBack1 i o ρ)
  | .val _ :: ts, _ :: os, ρ => putBack ts os ρ
  | _, _, ρ => ρ
def nodupB : List Nat → Bool
  | [] => true
  | i :: r => !r.contains i && nodupB r
def callR (C : CallSem) (f : Nat) (toks : List ATok) (ρ : Rho) : R (Bool × PV) := match argSlots ρ toks with
  | none => .bad
  | some as => if nodupB (slotIxs toks) = true then (match C f as with
      | .ok fr d outs => .ok (fr, d) (putBack toks outs ρ)
      | .exc c x => .exc c x (putBack toks (as.map fun _ => none) ρ)
      | .bad => .bad) else .bad

/-! ### walks -/
def wipeR (ρ : Rho) : List Nat → Rho
  | [] => ρ
  | v :: vs => (wipeR ρ vs).set v none
/-- the slots at vs as they stood in ρ0 -/
def unwipe (ρ0 : Rho) (ρ : Rho) : List Nat → Rho
  | [] => ρ
  | v :: vs => (unwipe ρ0 ρ vs).set v (ρ0.getD v none)
/-- the name that is lent -/
def lendI : Ik → List IE → Option Nat
  | .lend, [.var i] => some i
  | _, _ => none
def lendR (ik : Ik) (its : List IE) (ρ : Rho) : Rho := match lendI ik its with
  | some i => match ρ[i]? with
    | some (some (s, d)) => if s.mut then ρ.set i (some (.lnt, d)) else ρ
    | _ => ρ
  | none => ρ
def backR (ik : Ik) (its : List IE) (ρ0 ρ : Rho) : Option Rho := match lendI ik its with
  | some i => match ρ0[i]? with
    | some (some (s, d)) => if s.mut then (match ρ[i]? with
      | some (some (.lnt, _)) => some (ρ.set i (some (s, d)))
      | _ => none) else some ρ
    | _ => some ρ
  | none => some ρ
def R.back {α : Type} (ik : Ik) (its : List IE) (ρ0 : Rho) : R α → R α
  | .ok a ρ => match backR ik its ρ0 ρ with
    | some ρ' => .ok a ρ'
    | none => .bad
  | .exc c x ρ => match backR ik its ρ0 ρ with
    | some ρ' => .exc c x ρ'
    | none => .bad
  | .bad => .bad
/-- nothing is raised here -/
def R.quiet {α : Type} : R α → R α
  | .ok a ρ => .ok a ρ
  | _ => .bad
def compLoop (f : PV → Rho → R (Option PV)) : List PV → Rho → R (List PV)
  | [], ρ => .ok [] ρ
  | x :: xs, ρ => (f x ρ).bind fun o ρ1 => (compLoop f xs ρ1).bind fun ds ρ2 => .ok (match o with | some d => d :: ds | none => ds) ρ2
def compLoop2 (f : PV → Rho → R (List PV)) : List PV → Rho → R (List PV)
  | [], ρ => .ok [] ρ
  | x :: xs, ρ => (f x ρ).bind fun o ρ1 => (compLoop2 f xs ρ1).bind fun ds ρ2 => .ok (o ++ ds) ρ2
/-- a test's word -/
def tr (m : Bool) (r : R (Bool × PV)) : R (Bool × PV) := if m then r.bind fun fd ρ => R.opt ((truth fd.2).map fun b => (false, .bl b)) ρ else r
def sliceB (e : IE) (r : R (Bool × PV)) (ρ : Rho) : R (Option Int) := match e with
  | .cst .non => .ok none ρ
  | _ => r.bind fun fd ρ1 => match fd.2 with | .int i => .ok (some i) ρ1 | _ => .bad
def asB (fd : Bool × PV) (ρ : Rho) (f : Bool → R (Bool × PV)) : R (Bool × PV) := match fd.2 with
  | .bl c => f c
  | _ => .bad
def lenOk (ds : List PV) (ρ : Rho) (r : R (Bool × PV)) : R (Bool × PV) := if ds.length ≤ 16777216 then r else .bad
/-- pairs of a display -/
def dspV : List PV → Option (List (PV × PV))
  | [] => some []
  | k :: v :: r => (dspV r).map fun t => (k, v) :: t
  | _ => none

/-- what is walked -/
def itR (ik : Ik) (its : List IE) (kept : R (List PV)) (ρ : Rho) : R (List PV) := match ik with
  | .lend => (match its with
    | [.var i] => (peekV i ρ).bind fun x ρ1 => R.opt (itV .lend [x.2]) ρ1
    | _ => .bad)
  | ik => kept.bind fun ds ρ1 => R.opt (itV ik ds) ρ1
variable (C : CallSem)
mutual
/-- m: as a test -/
def ev : Bool → IE → Rho → R (Bool × PV)
  | m, .cst v, ρ => tr m (.ok (false, v) ρ)
  | m, .var i, ρ => if m then tr true (peekV i ρ) else getV i ρ
  | m, .gint _ v, ρ => tr m (.ok (false, .int v) ρ)
  | m, .tup es, ρ => tr m ((evL es ρ).bind fun ds ρ1 => lenOk ds ρ1 (.ok (false, .tup ds) ρ1))
  | m, .tupS e es, ρ => tr m ((pk e (ev false e ρ) ρ).bind fun fd ρ1 => match fd.2 with
      | .tup xs => (evL es ρ1).bind fun ds ρ2 => lenOk (xs ++ ds) ρ2 (.ok (false, .tup (xs ++ ds)) ρ2)
      | _ => .bad)
  | m, .lst es, ρ => tr m ((evL es ρ).bind fun ds ρ1 => lenOk ds ρ1 (.ok (true, .lst ds) ρ1))
  | m, .bin op a b, ρ => tr m ((pk a (ev false a ρ) ρ).bind fun x ρ1 => (pk b (ev false b ρ1) ρ1).bind fun y ρ2 => match rpk a x.2 ρ2 with
      | some x' => R.opt (binV op x' y.2) ρ2
      | none => .bad)
  | m, .neg a, ρ => tr m ((ev false a ρ).bind fun x ρ1 => match x.2 with | .int i => .ok (false, .int (-i)) ρ1 | _ => .bad)
  | m, .not a, ρ => if m then (ev true a ρ).bind fun x ρ1 => asB x ρ1 fun c => .ok (false, .bl (!c)) ρ1
      else (pk a (ev false a ρ) ρ).bind fun x ρ1 => R.opt ((truth x.2).map fun c => (false, .bl (!c))) ρ1
  | m, .isN neg a, ρ => tr m ((pk a (ev false a ρ) ρ).bind fun x ρ1 => .ok (false, .bl (if neg then !isNon x.2 else isNon x.2)) ρ1)
  | m, .cmp op a b, ρ => tr m ((pk a (ev false a ρ) ρ).bind fun x ρ1 => (pk b (ev false b ρ1) ρ1).bind fun y ρ2 => match rpk a x.2 ρ2 with
      | some x' => R.opt ((cmpV op x' y.2).map fun c => (false, .bl c)) ρ2
      | none => .bad)
  | m, .chain op1 op2 a b c, ρ => tr m ((ev false a ρ).bind fun x ρ1 => (ev false b ρ1).bind fun y ρ2 => match x.2, y.2 with
      | .int i, .int j => (match cmpV op1 (.int i) (.int j) with
        | some true => (ev false c ρ2).bind fun z ρ3 => (match z.2 with | .int k => R.opt ((cmpV op2 (.int j) (.int k)).map fun c => (false, .bl c)) ρ3 | _ => .bad)
        | some false => .ok (false, .bl false) ρ2
        | none => .bad)
      | _, _ => .bad)
  | m, .and a b, ρ => (ev m a ρ).bind fun x ρ1 => asB x ρ1 fun c => if c then ev m b ρ1 else .ok (false, .bl false) ρ1
  | m, .or a b, ρ => (ev m a ρ).bind fun x ρ1 => asB x ρ1 fun c => if c then .ok (false, .bl true) ρ1 else ev m b ρ1
  | m, .ite c a b, ρ => (ev true c ρ).bind fun x ρ1 => asB x ρ1 fun k => if k then ev m a ρ1 else ev m b ρ1
  | m, .idx a i, ρ => tr m ((pk a (ev false a ρ) ρ).bind fun x ρ1 => (pk i (ev false i ρ1) ρ1).bind fun y ρ2 => match rpk a x.2 ρ2 with
      | some x' => R.opt ((idxV x' y.2).map fun d => (false, d)) ρ2
      | none => .bad)
  | m, .slc a lo hi, ρ => tr m ((pk a (ev false a ρ) ρ).bind fun x ρ1 => (sliceB lo (ev false lo ρ1) ρ1).bind fun l ρ2 => (sliceB hi (ev false hi ρ2) ρ2).bind fun h ρ3 => match rpk a x.2 ρ3 with
      | some x' => R.opt (slcV x' l h) ρ3
      | none => .bad)
  | m, .call f es, ρ => tr m ((evA es ρ).bind fun ts ρ1 => callR C f ts ρ1)
  | m, .cals fs i es, ρ => tr m ((ev false i ρ).bind fun x ρ1 => match x.2 with
      | .int k => (match ixAt fs k with
        | some f => (evA es ρ1).bind fun ts ρ2 => callR C f ts ρ2
        | none => .bad)
      | _ => .bad)
  | m, .blt b e, ρ => tr m ((pk e (ev false e ρ) ρ).bind fun x ρ1 => R.opt (bltV b [x.2]) ρ1)
  | m, .sset e, ρ => tr m ((pk e (ev false e ρ) ρ).bind fun x ρ1 => R.opt (ssetV x.2) ρ1)
  | m, .bltn b es, ρ => tr m ((evL es ρ).bind fun ds ρ1 => R.opt (bltV b ds) ρ1)
  | m, .met mi i es, ρ => tr m (match ρ[i]? with
      | some (some (s0, d0)) => if s0.mut && metK mi d0 then (evL es ρ).bind fun ds ρ1 => (match ρ1[i]? with
          | some (some (s, d)) => if s.mut then (match metV mi d ds with
            | some (r, d') => .ok r (ρ1.set i (some (s, d')))
            | none => .bad) else .bad
          | _ => .bad) else .bad
      | _ => .bad)
  | m, .lcp own tg ik its conds elt, ρ => tr m ((itR ik its (evL its ρ) ρ).bind fun xs ρ1 =>
      ((compLoop (fun x ρ2 => (bindT tg x (wipeR ρ2 own)).bind fun _ ρ3 => (evC conds ρ3).bind fun k ρ4 => if k then (ev false elt ρ4).bind fun y ρ5 => .ok (some y.2) ρ5 else .ok none ρ4) xs (lendR ik its ρ1)).quiet).bind fun ds ρ6 =>
        lenOk ds ρ6 (R.back ik its ρ1 (.ok (true, .lst ds) (unwipe (lendR ik its ρ1) ρ6 own))))
  | m, .lcp2 own own2 tg ik its tg2 ik2 its2 conds2 elt, ρ => tr m ((itR ik its (evL its ρ) ρ).bind fun xs ρ1 =>
      ((compLoop2 (fun x ρ2 => (bindT tg x (wipeR ρ2 own)).bind fun _ ρ3 => (itR ik2 its2 (evL its2 ρ3) ρ3).bind fun ys ρ4 =>
          compLoop (fun y ρ5 => (bindT tg2 y (wipeR ρ5 own2)).bind fun _ ρ6 => (evC conds2 ρ6).bind fun k ρ7 => if k then (ev false elt ρ7).bind fun z ρ8 => .ok (some z.2) ρ8 else .ok none ρ7) ys ρ4) xs (lendR ik its ρ1)).quiet).bind fun ds ρ6 =>
        lenOk ds ρ6 (R.back ik its ρ1 (.ok (true, .lst ds) (unwipe (lendR ik its ρ1) ρ6 own))))
  | m, .dsp k es, ρ => tr m ((evL es ρ).bind fun ds ρ1 => match dspV ds with
      | some kvs => if kvs.length ≤ 15 ∧ (∀ kv ∈ kvs, keyFit 0 kv.1 = true) ∧ (k = 0 ∨ (k = 1 ∧ kvs = [])) then .ok (true, .dct k (kvs.foldl (fun acc kv => dPut acc kv.1 kv.2) [])) ρ1 else .bad
      | none => .bad)
/-- values that are kept -/
def evL : List IE → Rho → R (List PV)
  | [], ρ => .ok [] ρ
  | e :: es, ρ => (ev false e ρ).bind fun x ρ1 => (evL es ρ1).bind fun ds ρ2 => .ok (x.2 :: ds) ρ2
/-- arguments -/
def evA : List IE → Rho → R (List ATok)
  | [], ρ => .ok [] ρ
  | e :: es, ρ => (tk e (ev false e ρ) ρ).bind fun x ρ1 => (evA es ρ1).bind fun ds ρ2 => .ok (x :: ds) ρ2
/-- tests -/
def evC : List IE → Rho → R Bool
  | [], ρ => .ok true ρ
  | e :: es, ρ => (ev true e ρ).bind fun x ρ1 => match x.2 with
    | .bl true => evC es ρ1
    | .bl false => .ok false ρ1
    | _ => .bad
end

inductive Fl where
  | nx | brk | cnt
  | ret (fr : Bool) (d : PV)
/-- one turn after another: body, the items -/
def forLoop (set : PV → Rho → R Unit) (body : Rho → R Fl) : List PV → Rho → R Fl
  | [], ρ => .ok .nx ρ
  | x :: xs, ρ => (set x ρ).bind fun _ ρ1 => (body ρ1).bind fun f ρ2 => match f with
    | .nx => forLoop set body xs ρ2
    | .cnt => forLoop set body xs ρ2
    | .brk => .ok .nx ρ2
    | .ret fr d => .ok (.ret fr d) ρ2
def whileN (c : Rho → R (Bool × PV)) (body : Rho → R Fl) : Nat → Rho → R Fl
  | 0, _ => .bad
  | n + 1, ρ => (c ρ).bind fun x ρ1 => match x.2 with
    | .bl true => (body ρ1).bind fun f ρ2 => (match f with
      | .nx => whileN c body n ρ2
      | .cnt => whileN c body n ρ2
      | .brk => .ok .nx ρ2
      | .ret fr d => .ok (.ret fr d) ρ2)
    | .bl false => .ok .nx ρ1
    | _ => .bad
def R.isBad {α : Type} : R α → Prop
  | .bad => True
  | _ => False
open Classical in
noncomputable def whileR (c : Rho → R (Bool × PV)) (body : Rho → R Fl) (ρ : Rho) : R Fl :=
  if h : ∃ n, ¬ (whileN c body n ρ).isBad then whileN c body h.choose ρ else .bad
/-- return e: a list of one's own is handed over -/
def retV (e : IE) (r : R (Bool × PV)) (ρ : Rho) : R (Bool × PV) := match e with
  | .var i => match ρ[i]? with
    | some (some (.own, d)) => .ok (true, d) (ρ.set i none)
    | _ => r
  | _ => r
def errStr : Nat → PV
  | 0 => .str [114, 101, 102, 117, 115, 101, 100]
  | 1 => .str [108, 97, 114, 103, 101]
  | 2 => .str [109, 105, 115, 115, 105, 110, 103]
  | 3 => .str [112, 97, 112, 101, 114]
  | 4 => .str [102, 111, 114, 109]
  | _ => .str [111, 100, 100]
def setVs : List Nat → List (Bool × PV) → Rho → R Unit
  | [], _, ρ => .ok () ρ
  | i :: is, x :: xs, ρ => (setV i x.1 x.2 ρ).bind fun _ ρ1 => setVs is xs ρ1
  | _ :: _, [], _ => .bad
def evF : List IE → Rho → R (List (Bool × PV))
  | [], ρ => .ok [] ρ
  | e :: es, ρ => (ev C false e ρ).bind fun x ρ1 => (evF es ρ1).bind fun ds ρ2 => .ok (x :: ds) ρ2
def asgT (tg : Tg) (x : Bool × PV) (ρ : Rho) : R Unit := match tg with
  | .name i => setV i x.1 x.2 ρ
  | _ => bindT tg x.2 ρ
mutual
noncomputable def exS : IS → Rho → R Fl
  | .ex e, ρ => (ev C false e ρ).bind fun _ ρ1 => .ok .nx ρ1
  | .asg tg e, ρ => (ev C false e ρ).bind fun x ρ1 => (asgT tg x ρ1).bind fun _ ρ2 => .ok .nx ρ2
  | .asgs is es, ρ => if is.length = es.length then (evF C es ρ).bind fun xs ρ1 => (setVs is xs ρ1).bind fun _ ρ2 => .ok .nx ρ2 else .bad
  | .aug i op e, ρ => (peekV i ρ).bind fun x _ => (ev C false e ρ).bind fun y ρ1 => match x.2, y.2 with
    | .int a, .int b => (R.opt (binV op (.int a) (.int b)) ρ1).bind fun z ρ2 => (setV i false z.2 ρ2).bind fun _ ρ3 => .ok .nx ρ3
    | _, _ => .bad
  | .seti i ix e, ρ => (ev C false e ρ).bind fun v ρ1 => (peekV i ρ1).bind fun _ ρ1' => (ev C false ix ρ1').bind fun k ρ2 => match ρ2[i]? with
    | some (some (s, d)) => if s.mut then (match setI d k.2 v.2 with
        | some d' => .ok .nx (ρ2.set i (some (s, d')))
        | none => .bad) else .bad
    | _ => .bad
  | .ifs c a b, ρ => (ev C true c ρ).bind fun x ρ1 => match x.2 with
    | .bl true => exSs a ρ1
    | .bl false => exSs b ρ1
    | _ => .bad
  | .whl c b, ρ => whileR (fun ρ => ev C true c ρ) (fun ρ => exSs b ρ) ρ
  | .for_ tg ik its b, ρ => (itR ik its (evL C its ρ) ρ).bind fun xs ρ1 => (forLoop (fun x ρ => bindT tg x ρ) (fun ρ => exSs b ρ) xs (lendR ik its ρ1)).back ik its ρ1
  | .ret e, ρ => (retV e (ev C false e ρ) ρ).bind fun x ρ1 => .ok (.ret x.1 x.2) ρ1
  | .retN, ρ => .ok (.ret false .non) ρ
  | .raise c, ρ => .exc c .non ρ
  | .tryErr i b, ρ => match exSs b ρ with
    | .exc c _ ρ1 => if c < 5 ∧ i < ρ1.length then .ok (.ret false (errStr c)) ρ1 else .bad
    | r => r
  | .brk, ρ => .ok .brk ρ
  | .cnt, ρ => .ok .cnt ρ
  | .pass, ρ => .ok .nx ρ
noncomputable def exSs : List IS → Rho → R Fl
  | [], ρ => .ok .nx ρ
  | s :: ss, ρ => (exS s ρ).bind fun f ρ1 => match f with
    | .nx => exSs ss ρ1
    | f => .ok f ρ1
end
/-- a def: how many parameters, how many names, its body -/
structure Fn where
  np : Nat
  nn : Nat
  body : List IS
def outSlot : Slot → Slot
  | some (.par, d) => some (.par, d)
  | some (.frp, d) => some (.frp, d)
  | _ => none
/-- what the caller owns is handed back, or shared -/
def pinsOk : List Slot → Rho → Bool
  | [], _ => true
  | some (.par, _) :: as, r :: ρ => (match r with
    | some (.par, _) => true
    | some (.frp, .lst _) => true
    | some (.frp, .dct _ _) => true
    | _ => false) && pinsOk as ρ
  | _ :: as, _ :: ρ => pinsOk as ρ
  | _ :: _, [] => false
def argsOk : List Slot → Bool
  | [] => true
  | some (.par, _) :: as => argsOk as
  | some (.sh, _) :: as => argsOk as
  | _ :: _ => false
def outsOf (np : Nat) (ρ : Rho) : List Slot := (List.range np).map fun p => outSlot (ρ.getD p none)
noncomputable def callF (fn : Fn) (C : CallSem) (args : List Slot) : CR :=
  if args.length = fn.np ∧ argsOk args = true then (match exSs C fn.body (args ++ List.replicate (fn.nn - fn.np) none) with
    | .ok (.ret fr d) ρ => if (!fr || pinsOk args ρ) = true then .ok fr d (outsOf fn.np ρ) else .bad
    | .ok .nx ρ => .ok false .non (outsOf fn.np ρ)
    | .exc c x _ => .exc c x
    | _ => .bad) else .bad
noncomputable def evalCall (tbl : List Fn) : Nat → CallSem
  | 0 => fun _ _ => .bad
  | k + 1 => fun f args => match tbl[f]? with
    | some fn => callF fn (evalCall tbl k) args
    | none => .bad
end Cw
set_option Elab.async false
set_option linter.all false
set_option maxRecDepth 100000
set_option maxHeartbeats 4000000
set_option autoImplicit false
/-! Cw, part C: what the evaluator says, as readings; the base of the soundness of expressions -/
namespace Cw
open PySem L2

/-- what is known of the text: the defs by number, int constants, built-in names that the module does not bind, exception classes by number -/
structure Tab where
  fns : List Str
  nums : List (Str × Int)
  free : List Str
  excs : List Str
/-- a raised object of the class number c -/
def ExcIs (EA : Nat → Addr) (c : Nat) (x : PV) (cls : Value) (dd : Option Addr) : Prop := cls = .ref (EA c) ∧ dd = none ∧ x = .non

section
variable (K : PySem.W.Frag)
/-- a value's standing: new (since H0), or shared -/
def RepS (F : FS) (H H0 : Hp) (fr : Bool) (d : PV) (v : V) : Prop :=
  if fr = true then ∃ a, v = .ref a ∧ OwnAt K F H d a ∧ H0 a = none else Rep K F H d v
/-- a value that may be looked at -/
def RepP (F : FS) (H : Hp) (d : PV) (v : V) : Prop := Rep K F H d v ∨ ∃ a, v = .ref a ∧ OwnAt K F H d a
/-- what a result says of all that may come -/
def post (EA : Nat → Addr) (W : WX) (σ : L2.St) (F : FS) (H : Hp) (ρ : Rho) {α : Type} (r : R α) (φ : α → FS → Hp → Rho → Prop) : Prop :=
  match r with
  | .ok a ρ' => ∀ F' H', Rel K F' H' ρ' σ → EStep F H ρ σ F' H' ρ' → φ a F' H' ρ'
  | .exc c x ρ' => ∀ F' H' cls dd, Rel K F' H' ρ' σ → EStep F H ρ σ F' H' ρ' → ExcIs EA c x cls dd → W cls dd σ H'
  | .bad => False
end
section
variable {K : PySem.W.Frag} {EA : Nat → Addr} {W : WX} {σ : L2.St} {F F' : FS} {H H' : Hp} {ρ ρ' : Rho} {α β : Type}
theorem post.mono {r : R α} {φ ψ : α → FS → Hp → Rho → Prop} (h : post K EA W σ F H ρ r φ) (i : ∀ a F' H' ρ', Rel K F' H' ρ' σ → EStep F H ρ σ F' H' ρ' → φ a F' H' ρ' → ψ a F' H' ρ') : post K EA W σ F H ρ r ψ := by
  cases r with
  | ok a ρ' => exact fun F' H' r s => i a F' H' ρ' r s (h F' H' r s)
  | exc c x ρ' => exact h
  | bad => exact h
/-- one after another; G: what came last may have become shared -/
theorem post.bind {r : R α} {f : α → Rho → R β} {φ : β → FS → Hp → Rho → Prop} (h : post K EA W σ F H ρ (r.bind f) φ) :
    post K EA W σ F H ρ r fun a F1 H1 ρ1 => ∀ G, Rel K G H1 ρ1 σ → EStep F H ρ σ G H1 ρ1 → post K EA W σ G H1 ρ1 (f a ρ1) φ := by
  cases r with
  | ok a ρ1 =>
    intro F1 H1 r1 s1 G r1 s1
    simp only [R.bind_ok] at h
    cases e : f a ρ1 with
    | ok b ρ2 => rw [e] at h; exact fun F2 H2 r2 s2 => h F2 H2 r2 (s1.trans s2)
    | exc c x ρ2 => rw [e] at h; exact fun F2 H2 cls dd r2 s2 => h F2 H2 cls dd r2 (s1.trans s2)
    | bad => rw [e] at h; exact h
  | exc c x ρ' => exact h
  | bad => exact h
/-- at once -/
theorem post.here {a : α} {φ : α → FS → Hp → Rho → Prop} (h : post K EA W σ F H ρ (.ok a ρ) φ) (r : Rel K F H ρ σ) : φ a F H ρ := h F H r .refl
theorem post.opt {o : Option α} {φ : α → FS → Hp → Rho → Prop} (h : post K EA W σ F H ρ (R.opt o ρ) φ) (r : Rel K F H ρ σ) : ∃ a, o = some a ∧ φ a F H ρ := by
  cases o with
  | none => exact h.elim
  | some a => exact ⟨a, rfl, h F H r .refl⟩

theorem RepS.of {d : PV} {v : V} {H0 : Hp} (h : Rep K F H d v) : RepS K F H H0 false d v := h
theorem RepS.p {d : PV} {v : V} {H0 : Hp} {fr : Bool} (h : RepS K F H H0 fr d v) : RepP K F H d v := by
  cases fr with
  | false => exact .inl h
  | true => obtain ⟨a, e, o, _⟩ := h; exact .inr ⟨a, e, o⟩
/-- from a later start to an earlier one -/
theorem RepS.back {d : PV} {v : V} {H0 H1 : Hp} {fr : Bool} (h : RepS K F H H1 fr d v) (al : ∀ a, H1 a = none → H0 a = none) : RepS K F H H0 fr d v := by
  cases fr with
  | false => exact h
  | true => obtain ⟨a, e, o, n⟩ := h; exact ⟨a, e, o, al a n⟩
theorem Rep.step (r : Rel K F H ρ σ) {σ' : L2.St} (s : Step F H ρ σ F' H' ρ' σ') {d : PV} {v : V} (h : Rep K F H d v) : Rep K F' H' d v := h.keep s.ff (s.keep r)
theorem Reps.step (r : Rel K F H ρ σ) {σ' : L2.St} (s : Step F H ρ σ F' H' ρ' σ') {ds : List PV} {vs : List V} (h : Reps K F H ds vs) : Reps K F' H' ds vs := Reps.keep s.ff (s.keep r) _ _ h
/-- a new object of nobody stays -/
theorem OwnAt.step (r : Rel K F H ρ σ) {σ' : L2.St} (s : Step F H ρ σ F' H' ρ' σ') {d : PV} {a : Addr} (h : OwnAt K F H d a) (n : ¬ OwnA ρ σ a) : OwnAt K F' H' d a := by
  obtain ⟨o, e⟩ := h.live
  refine h.keep s.ff (s.keep r) (fun f => ?_) (by rw [e]; exact s.fr a o e n)
  rcases s.fn a f with f | f | f
  · exact h.1 f
  · rw [e] at f; cases f
  · exact n f
/-- an object that came behind the start is no slot's -/
theorem EStep.fresh (r : Rel K F H ρ σ) (s : EStep F H ρ σ F' H' ρ') {a : Addr} (n : H a = none) : ¬ OwnA ρ' σ a := fun h => (r.notF (s.owns h)).2 n
theorem RepS.step {F0 : FS} {H0 : Hp} {ρ0 : Rho} (r0 : Rel K F0 H0 ρ0 σ) (s0 : EStep F0 H0 ρ0 σ F H ρ) (r : Rel K F H ρ σ) (s : EStep F H ρ σ F' H' ρ') {fr : Bool} {d : PV} {v : V} (h : RepS K F H H0 fr d v) : RepS K F' H' H0 fr d v := by
  cases fr with
  | false => exact Rep.step r s.1 h
  | true => obtain ⟨a, e, o, n⟩ := h; exact ⟨a, e, o.step r s.1 (EStep.fresh r0 s0 n), n⟩
/-- a new object becomes shared -/
theorem share {F0 : FS} {H0 : Hp} {ρ0 : Rho} (r0 : Rel K F0 H0 ρ0 σ) (s0 : EStep F0 H0 ρ0 σ F H ρ) (r : Rel K F H ρ σ) {fr : Bool} {d : PV} {v : V} (h : RepS K F H H0 fr d v) :
    ∃ G, Rel K G H ρ σ ∧ EStep F0 H0 ρ0 σ G H ρ ∧ Rep K G H d v ∧ (∀ a, F a → G a) := by
  cases fr with
  | false => exact ⟨F, r, s0, h, fun _ z => z⟩
  | true =>
    obtain ⟨a, e, o, n⟩ := h
    have na := EStep.fresh r0 s0 n
    obtain ⟨u, l⟩ := o.live
    subst e
    refine ⟨addF F a, r.share (by rw [l]; simp) na, EStep.share (fun q e => .inl (by rw [e]; exact n)) s0, o.freeze, fun _ => .inl⟩
end

/-! ### the readings -/
section
variable (K : PySem.W.Frag) (EA : Nat → Addr) (W : WX)
/-- a value, new or shared -/
def tRaw (raw : Rho → R (Bool × PV)) : TE := fun σ H Q => ∃ F ρ, Rel K F H ρ σ ∧ post K EA W σ F H ρ (raw ρ) fun x F' H' _ => ∀ v, RepS K F' H' H x.1 x.2 v → Q v H'
/-- a test -/
def tTst (raw : Rho → R (Bool × PV)) : TT := fun σ H Q => ∃ F ρ, Rel K F H ρ σ ∧ post K EA W σ F H ρ (raw ρ) fun x _ H' _ => ∃ b, x.2 = .bl b ∧ Q b H'
/-- a value that is looked at: a name's is what the slot holds -/
def PkR (ie : IE) (σ : L2.St) (F : FS) (H H0 : Hp) (x : Bool × PV) (v : V) : Prop := match ie with
  | .var i => σ[i]? = some (some v)
  | _ => RepS K F H H0 x.1 x.2 v
variable (C : CallSem)
def tPk (ie : IE) : TE := fun σ H Q => ∃ F ρ, Rel K F H ρ σ ∧ post K EA W σ F H ρ (pk ie (ev C false ie ρ) ρ) fun x F' H' _ => ∀ v, PkR K ie σ F' H' H x v → RepP K F' H' x.2 v → Q v H'
/-- kept values -/
def tL (ies : List IE) : TA := fun σ H Q => ∃ F ρ, Rel K F H ρ σ ∧ post K EA W σ F H ρ (evL C ies ρ) fun ds F' H' _ => ∀ vs, Reps K F' H' ds vs → Q vs H'
/-- values with their standing -/
def RepF (F : FS) (H H0 : Hp) : List (Bool × PV) → List V → Prop
  | [], vs => vs = []
  | x :: xs, vs => ∃ v r, vs = v :: r ∧ RepS K F H H0 x.1 x.2 v ∧ RepF F H H0 xs r
/-- seen values -/
def PkRs (σ : L2.St) (F : FS) (H H0 : Hp) : List IE → List PV → List V → Prop
  | [], ds, vs => ds = [] ∧ vs = []
  | e :: es, ds, vs => ∃ fr d r v w, ds = d :: r ∧ vs = v :: w ∧ PkR K e σ F H H0 (fr, d) v ∧ PkRs σ F H H0 es r w
def TokR (F : FS) (H : Hp) (σ : L2.St) : List ATok → List V → Prop
  | [], vs => vs = []
  | .val d :: ts, vs => ∃ v r, vs = v :: r ∧ Rep K F H d v ∧ TokR F H σ ts r
  | .slot i :: ts, vs => ∃ v r, vs = v :: r ∧ σ[i]? = some (some v) ∧ TokR F H σ ts r
def tA (ies : List IE) : TA := fun σ H Q => ∃ F ρ, Rel K F H ρ σ ∧ post K EA W σ F H ρ (evA C ies ρ) fun ts F' H' _ => ∀ vs, TokR K F' H' σ ts vs → Q vs H'
end

section
variable {K : PySem.W.Frag} {EA : Nat → Addr} {W : WX} {σ : L2.St} {F F' : FS} {H H' : Hp} {ρ ρ' : Rho} {α β : Type}
theorem RepP.own {d : PV} {a : Addr} (h : OwnAt K F H d a) : RepP K F H d (.ref a) := .inr ⟨a, rfl, h⟩
/-- what a slot holds, looked at -/
theorem Rel.seen (r : Rel K F H ρ σ) {i : Nat} {s : Stt} {d : PV} {v : V} (h : ρ[i]? = some (some (s, d))) (hs : s ≠ .lnt) (hv : σ[i]? = some (some v)) : RepP K F H d v := by
  cases e : s.mut with
  | true =>
    obtain ⟨a, h1, h2⟩ := r.ow i s d h e
    rw [hv] at h1
    cases h1
    exact .inr ⟨a, rfl, h2⟩
  | false =>
    have hsh : s.shr = true := by cases s <;> first | rfl | (cases e; done) | exact absurd rfl hs
    obtain ⟨w, h1, h2⟩ := r.rd i s d h hsh
    rw [hv] at h1
    cases h1
    exact .inl h2
/-- later -/
theorem PkR.later {ie : IE} {F0 : FS} {H0 : Hp} {ρ0 : Rho} (r0 : Rel K F0 H0 ρ0 σ) (s0 : EStep F0 H0 ρ0 σ F H ρ) (r : Rel K F H ρ σ) (s : EStep F H ρ σ F' H' ρ') (r' : Rel K F' H' ρ' σ)
    {x : Bool × PV} {v : V} {d' : PV} (h : PkR K ie σ F H H0 x v) (e : rpk ie x.2 ρ' = some d') : RepP K F' H' d' v := by
  unfold PkR at h
  split at h
  · rename_i i
    simp only [rpk] at e
    split at e
    · cases e
    · rename_i s2 d2 hne h2
      cases e
      exact r'.seen h2 hne h
    · cases e
  · rename_i hn
    have e' : x.2 = d' := by
      unfold rpk at e
      split at e
      · exact absurd rfl (hn _)
      · exact Option.some.inj e
    subst e'
    exact (h.step r0 s0 r s).p
end
end Cw
set_option Elab.async false
set_option linter.all false
set_option maxRecDepth 100000
set_option maxHeartbeats 4000000
set_option autoImplicit false
/-! Cw, part D1: tuple * int where the number is 1 or less -/
namespace Cw
open PySem L2 PyProof.Rows
theorem tuple_mul_one (l : Addr) (items : Array Value) (n : Nat) (dd : Option Addr) (sl : Array (Option Value)) (x : Int) (u : Tok) (c0 : (decide (x < -(2 ^ 63)) || decide (x ≥ 2 ^ 63)) = false) (c1 : (items.isEmpty || x == 1) = true) :
    Meets (Builtin.«tuple.__mul__» ⟨[.ref l, .int x u], []⟩) (fun _ R s => s.heap.get? l = some { cls := .type "tuple", dict := dd, data := .seq items n, slots := sl } ∧ R (.ok (.ret (Value.ref l))) s) :=
  .of_wp fun prog w A R s h => by
    obtain ⟨hp, g, d, tk, os⟩ := s
    obtain ⟨hl, h⟩ := h
    have f1 := AutoSeq1.idx_int
    wp_walk using wpAny_loadPart' hl
    repeat (first
      | (refine wpAny_ite_false (decide_eq_false (by rw [c0]; exact Bool.false_ne_true)) ?_; wp_walk using wpAny_loadPart' hl)
      | (refine wpAny_ite_true (decide_eq_true c1) ?_; wp_walk using wpAny_loadPart' hl))
    exact ⟨_, rfl, h⟩
theorem tuple_mul_neg (l : Addr) (items : Array Value) (n : Nat) (dd : Option Addr) (sl : Array (Option Value)) (x : Int) (u : Tok) (c0 : (decide (x < -(2 ^ 63)) || decide (x ≥ 2 ^ 63)) = false) (c1 : (items.isEmpty || x == 1) = false) (c2 : (decide (x ≤ 0) || items.isEmpty) = true) :
    Meets (Builtin.«tuple.__mul__» ⟨[.ref l, .int x u], []⟩) (fun _ R s => s.heap.get? l = some { cls := .type "tuple", dict := dd, data := .seq items n, slots := sl } ∧
      R (.ok (.ret (Value.ref s.heap.objs.size))) { s with heap := s.heap.push { cls := Value.type "tuple", data := Data.seq #[] }, toks := s.toks }) :=
  .of_wp fun prog w A R s h => by
    obtain ⟨hp, g, d, tk, os⟩ := s
    obtain ⟨hl, h⟩ := h
    have f1 := AutoSeq1.idx_int
    wp_walk using wpAny_loadPart' hl
    repeat (first
      | (refine wpAny_ite_false (decide_eq_false (by rw [c0]; exact Bool.false_ne_true)) ?_; wp_walk using wpAny_loadPart' hl)
      | (refine wpAny_ite_false (decide_eq_false (by rw [c1]; exact Bool.false_ne_true)) ?_; wp_walk using wpAny_loadPart' hl)
      | (refine wpAny_ite_true (decide_eq_true c2) ?_; wp_walk using wpAny_loadPart' hl))
    exact ⟨_, rfl, h⟩
end Cw
namespace Cw
open PySem L2 PySem.Spec PyProof.Rows
/-- t * k, k at most 1, or t empty -/
def rRepT1 (K : PySem.W.Frag) : R2 := fun x y H Q => ∃ l k xs, x = .ref l ∧ y = .int k ∧ SqT K H l xs ∧ k ≤ 1 ∧ -(2 ^ 63) ≤ k ∧ xs ≠ [] ∧
  (k = 1 → Q (.ref l) H) ∧ (k ≠ 1 → ∀ p, H p = none → Q (.ref p) (upd H p (.tup [])))
theorem op_repT1 {X : Cx} : OpR X (binaryOp .Mult) (rRepT1 X.K) := by
  intro pins s σ H x y v u Q I rx ry h
  obtain ⟨l, k, xs, rfl, rfl, hT, hk, hk2, hne, q1, q2⟩ := h
  cases rx
  obtain ⟨t, rfl⟩ := ry
  obtain ⟨its, r, ⟨⟨cls, dd, data, sl⟩, ho, hc, n, hd⟩, hs⟩ := I.tuple hT
  simp only at hc hd
  subst hc hd
  have c0 : (decide (k < -(2 ^ 63)) || decide (k ≥ 2 ^ 63)) = false := by
    rw [decide_eq_false (by omega), decide_eq_false (by omega)] <;> rfl
  have hi : its.toArray.isEmpty = false := by
    cases its with
    | nil => cases r; exact absurd rfl hne
    | cons a b => rfl
  by_cases e : k = 1
  · refine wpAny_binaryOp_repeat_ref (T := "tuple") (U := "int") (by decide) ⟨_, ho, rfl⟩ (fun s' => typeIs_int s' k t) noFill_tuple_mul F.fills_int_mul F.slot_int_rmul repeat_tuple F.slot_int_index.lookup
      (call_meets F.slot_int_rmul (typeIs_int s k t) F.entry_int_rmul (F.args_int_rmul_2 _ _) (int_rmul_tuple k t l its.toArray n dd sl)
        ⟨ho, rfl, ⟨_, ho, rfl⟩, call_meets F.slot_tuple_mul ⟨_, ho, rfl⟩ F.entry_tuple_mul (F.args_tuple_mul_2 _ _) (tuple_mul_one l its.toArray n dd sl k t c0 (by rw [e]; simp)) ⟨ho, ?_⟩⟩)
    exact ⟨.ref l, H, I, rfl, q1 e⟩
  · refine wpAny_binaryOp_repeat_ref (T := "tuple") (U := "int") (by decide) ⟨_, ho, rfl⟩ (fun s' => typeIs_int s' k t) noFill_tuple_mul F.fills_int_mul F.slot_int_rmul repeat_tuple F.slot_int_index.lookup
      (call_meets F.slot_int_rmul (typeIs_int s k t) F.entry_int_rmul (F.args_int_rmul_2 _ _) (int_rmul_tuple k t l its.toArray n dd sl)
        ⟨ho, rfl, ⟨_, ho, rfl⟩, call_meets F.slot_tuple_mul ⟨_, ho, rfl⟩ F.entry_tuple_mul (F.args_tuple_mul_2 _ _) (tuple_mul_neg l its.toArray n dd sl k t c0 (by rw [hi, Bool.false_or]; exact beq_eq_false_iff_ne.mpr e) (by rw [decide_eq_true (by omega)]; rfl)) ⟨ho, ?_⟩⟩)
    refine ⟨.ref s.heap.objs.size, _, I.laid (t' := s.toks) (o := .tup []) (fun b ob q => Heap.get?_push_of_some _ q) (Nat.le_refl _) ?_, rfl, q2 e _ (I.hok.fresh (Nat.le_refl _))⟩
    exact ⟨Nat.zero_le _, [], .nil, IsTup.new _ _⟩
end Cw
set_option Elab.async false
set_option linter.all false
set_option maxRecDepth 100000
set_option maxHeartbeats 4000000
set_option autoImplicit false
/-! Cw, part D: the operations by values -/
namespace Cw
open PySem L2

section
variable {K : PySem.W.Frag} {EA : Nat → Addr} {W : WX} {σ : L2.St} {F F' : FS} {H H' : Hp} {ρ ρ' : Rho} {d e z : PV} {x y v : V} {fr : Bool}
theorem RepP.int {i : Int} (h : RepP K F H (.int i) x) : x = .int i := h.elim (fun z => z) fun ⟨_, _, o⟩ => o.2.elim
theorem RepP.bl {i : Bool} (h : RepP K F H (.bl i) x) : x = .bl i := h.elim (fun z => z) fun ⟨_, _, o⟩ => o.2.elim
theorem RepP.non (h : RepP K F H .non x) : x = .non := h.elim (fun z => z) fun ⟨_, _, o⟩ => o.2.elim
theorem RepP.str {s : List Nat} (h : RepP K F H (.str s) x) : x = .str ⟨s.toArray⟩ := h.elim (fun z => z) fun ⟨_, _, o⟩ => o.2.elim
theorem RepP.tup {ds : List PV} (h : RepP K F H (.tup ds) x) : ∃ a vs, x = .ref a ∧ F a ∧ H a = some (.tup vs) ∧ Reps K F H ds vs :=
  h.elim (fun ⟨a, vs, e, f, r⟩ => ⟨a, vs, e, f.1, f.2, r⟩) fun ⟨_, _, o⟩ => o.2.elim
theorem RepP.lst {ds : List PV} (h : RepP K F H (.lst ds) x) : ∃ a vs, x = .ref a ∧ H a = some (.lst vs) ∧ Reps K F H ds vs :=
  h.elim (fun ⟨a, vs, e, f, r⟩ => ⟨a, vs, e, f.2, r⟩) fun ⟨a, e, o⟩ => by
    obtain ⟨vs, h1, h2⟩ := o.2
    exact ⟨a, vs, e, h1, h2⟩
theorem RepP.dct {k : Nat} {kvs : List (PV × PV)} (h : RepP K F H (.dct k kvs) x) : ∃ a, x = .ref a ∧ ((k = 0 ∧ ∃ ks, H a = some (.dK ks) ∧ RepKs K F H kvs ks) ∨ (k = 1 ∧ ∃ ks, H a = some (.dT ks) ∧ RepTs K F H kvs ks)) :=
  h.elim (fun ⟨a, e, f, r⟩ => ⟨a, e, r⟩) fun ⟨a, e, o⟩ => ⟨a, e, o.2⟩
theorem RepP.scr {ns : List Int} (h : RepP K F H (.scr ns) x) : ∃ a, x = .ref a ∧ SqL K H a (ns.map V.int) :=
  h.elim (fun ⟨a, e, f⟩ => ⟨a, e, f.seq⟩) fun ⟨_, _, o⟩ => o.2.elim
theorem RepP.set {xs : List PV} (h : RepP K F H (.set xs) x) : False := h.elim (fun z => z) fun ⟨_, _, o⟩ => o.2.elim
theorem RepP.rep_tup {ds : List PV} (h : RepP K F H (.tup ds) x) : Rep K F H (.tup ds) x := h.elim (fun z => z) fun ⟨_, _, o⟩ => o.2.elim

/-- what a result is to lead to -/
def Res (K : PySem.W.Frag) (σ : L2.St) (ρ : Rho) (F : FS) (H : Hp) (fr : Bool) (z : PV) (Q : VK) : Prop :=
  ∀ F' H' v, Rel K F' H' ρ σ → EStep F H ρ σ F' H' ρ → RepS K F' H' H fr z v → Q v H'
theorem Res.now {Q : VK} (q : Res K σ ρ F H false z Q) (r : Rel K F H ρ σ) (h : Rep K F H z v) : Q v H := q F H v r .refl h
theorem addF_new (r : Rel K F H ρ σ) {p : Addr} (hp : H p = none) (o : HO) : Rel K (addF F p) (upd H p o) ρ σ ∧ EStep F H ρ σ (addF F p) (upd H p o) ρ := by
  have np : ¬ OwnA ρ σ p := fun h => (r.notF h).2 hp
  exact ⟨(r.lay hp o).share (by rw [upd_same]; simp) np, EStep.share (fun q e => .inl (by rw [e]; exact hp)) (EStep.lay r hp o)⟩
theorem Reps.lay (r : Rel K F H ρ σ) {p : Addr} (hp : H p = none) (o : HO) {ds : List PV} {vs : List V} (h : Reps K F H ds vs) : Reps K F (upd H p o) ds vs := h.step r (EStep.lay r hp o).1
/-- a new tuple -/
theorem Res.tup {ds : List PV} {vs : List V} {Q : VK} (q : Res K σ ρ F H false (.tup ds) Q) (r : Rel K F H ρ σ) {p : Addr} (hp : H p = none) (h : Reps K F H ds vs) : Q (.ref p) (upd H p (.tup vs)) := by
  obtain ⟨r1, s1⟩ := addF_new r hp (.tup vs)
  exact q _ _ _ r1 s1 ⟨p, vs, rfl, ⟨.inr rfl, upd_same⟩, h.step r s1.1⟩
/-- a new list -/
theorem Res.lst {ds : List PV} {vs : List V} {Q : VK} (q : Res K σ ρ F H true (.lst ds) Q) (r : Rel K F H ρ σ) {p : Addr} (hp : H p = none) (h : Reps K F H ds vs) : Q (.ref p) (upd H p (.lst vs)) := by
  have s1 := EStep.lay r hp (.lst vs)
  exact q _ _ _ (r.lay hp _) s1 ⟨p, rfl, ⟨fun f => r.ft p f hp, vs, upd_same, h.lay r hp _⟩, hp⟩
theorem Reps.nil_iff {ds : List PV} {vs : List V} (h : Reps K F H ds vs) : vs = [] ↔ ds = [] := by
  cases ds with
  | nil => exact ⟨fun _ => rfl, fun _ => h⟩
  | cons d ds => obtain ⟨v, r, e, _⟩ := h; subst e; simp

theorem len16 {n : Nat} (h : n ≤ 16777216) : n ≤ sizeLine := by rw [sizeLine_eq]; exact h

/-! ### two-place operators -/
abbrev rAddN (K : PySem.W.Frag) : R2 := fun x y H Q => (rI0 (fun i j => .int (i + j)) x y H Q ∨ (∃ i j, x = .str i ∧ y = .str j ∧ i.length + j.length ≤ sizeLine ∧ Q (.str (i ++ j)) H)) ∨ (rCatA K x y H Q ∨ rCat x y H Q)
theorem op_addN {X : Cx} : OpR X (binaryOp .Add) (rAddN X.K) := (op_add.or op_add_str).or (op_catA.or op_cat)
theorem strLen (s : List Nat) : (⟨s.toArray⟩ : Str).length = s.length := by simp [Str.length]
theorem strApp (s t : List Nat) : (⟨s.toArray⟩ : Str) ++ ⟨t.toArray⟩ = ⟨(s ++ t).toArray⟩ := by
  show (⟨s.toArray ++ t.toArray⟩ : Str) = _
  simp
theorem add_of {Q : VK} (r : Rel K F H ρ σ) (hx : RepP K F H d x) (hy : RepP K F H e y) (h : binV .add d e = some (fr, z)) (q : Res K σ ρ F H fr z Q) : rAddN K x y H Q := by
  unfold binV at h
  split at h <;> first | (cases h; done) | skip
  all_goals first | (rename_i hh; cases hh; done) | skip
  case h_1 i j _ => cases h; exact .inl (.inl ⟨i, j, hx.int, hy.int, q.now r rfl⟩)
  case h_7 xs ys _ =>
    split at h
    · rename_i hl
      cases h
      obtain ⟨a, vs, rfl, fa, ha, ra⟩ := hx.tup
      obtain ⟨b, ws, rfl, fb, hb, rb⟩ := hy.tup
      refine .inr (.inl ⟨a, b, vs, ws, rfl, rfl, .of ha, .of hb, by rw [ra.len, rb.len]; exact len16 hl, fun e => ?_, fun _ e => ?_, fun _ _ p hp => ?_⟩)
      · have := ra.nil_iff.mp e
        subst this
        exact q.now r ⟨b, ws, rfl, ⟨fb, hb⟩, rb⟩
      · have := rb.nil_iff.mp e
        subst this
        rw [List.append_nil] at q
        exact q.now r ⟨a, vs, rfl, ⟨fa, ha⟩, ra⟩
      · exact q.tup r hp (ra.app rb)
    · cases h
  case h_8 xs ys _ =>
    split at h
    · rename_i hl
      cases h
      obtain ⟨a, vs, rfl, ha, ra⟩ := hx.lst
      obtain ⟨b, ws, rfl, hb, rb⟩ := hy.lst
      exact .inr (.inr ⟨a, b, vs, ws, rfl, rfl, ha, hb, by rw [ra.len, rb.len]; exact len16 hl, fun p hp => q.lst r hp (ra.app rb)⟩)
    · cases h
  case h_9 xs ys _ =>
    split at h
    · rename_i hl
      cases h
      refine .inl (.inr ⟨_, _, hx.str, hy.str, by rw [strLen, strLen]; exact len16 hl, ?_⟩)
      rw [strApp]
      exact q.now r rfl
    · cases h

theorem sub_of {Q : VK} (r : Rel K F H ρ σ) (hx : RepP K F H d x) (hy : RepP K F H e y) (h : binV .sub d e = some (fr, z)) (q : Res K σ ρ F H fr z Q) : rI0 (fun i j => .int (i - j)) x y H Q := by
  unfold binV at h
  split at h <;> first | (cases h; done) | skip
  all_goals first | (rename_i hh; cases hh; done) | skip
  cases h; exact ⟨_, _, hx.int, hy.int, q.now r rfl⟩
abbrev rMulN (K : PySem.W.Frag) : R2 := fun x y H Q => (rI CMul (fun i j => .int (i * j)) x y H Q ∨ rRep x y H Q) ∨ (rRepT K x y H Q ∨ rRepT1 K x y H Q)
theorem op_mulN {X : Cx} : OpR X (binaryOp .Mult) (rMulN X.K) := (op_mul.or op_rep).or (op_repT.or op_repT1)
theorem mul_of {Q : VK} (r : Rel K F H ρ σ) (hx : RepP K F H d x) (hy : RepP K F H e y) (h : binV .mul d e = some (fr, z)) (q : Res K σ ρ F H fr z Q) : rMulN K x y H Q := by
  unfold binV at h
  split at h <;> first | (cases h; done) | skip
  all_goals first | (rename_i hh; cases hh; done) | skip
  · split at h
    · rename_i hl
      cases h; exact .inl (.inl ⟨_, _, hx.int, hy.int, hl, q.now r rfl⟩)
    · cases h
  · split at h
    · rename_i hl
      obtain ⟨h1, h2, h3, h4⟩ := hl
      cases h
      obtain ⟨a, vs, rfl, fa, ha, ra⟩ := hx.tup
      rename_i xs k _
      have hne : vs ≠ [] := fun z => h4 (ra.nil_iff.mp z)
      by_cases hk : k ≤ 1
      · refine .inr (.inr ⟨a, k, vs, rfl, hy.int, .of ha, hk, h1, hne, fun e => ?_, fun e p hp => ?_⟩)
        · subst e
          have e1 : (List.replicate (1 : Int).toNat xs).flatten = xs := by show (List.replicate 1 xs).flatten = xs; simp
          rw [e1] at q
          exact q.now r ⟨a, vs, rfl, ⟨fa, ha⟩, ra⟩
        · have e1 : k.toNat = 0 := by omega
          rw [e1] at q
          exact q.tup r hp (ds := []) rfl
      · refine .inr (.inl ⟨a, k, vs, rfl, hy.int, .of ha, hne, by omega, h2, by rw [ra.len]; exact h3, fun p hp => q.tup r hp (ra.rep _)⟩)
    · cases h
  · split at h
    · rename_i hl
      obtain ⟨h1, h2, h3⟩ := hl
      cases h
      obtain ⟨a, vs, rfl, ha, ra⟩ := hx.lst
      exact .inl (.inr ⟨a, _, vs, rfl, hy.int, ha, h1, h2, by rw [ra.len]; exact len16 h3, fun p hp => q.lst r hp (ra.rep _)⟩)
    · cases h
theorem fdiv_of {Q : VK} (r : Rel K F H ρ σ) (hx : RepP K F H d x) (hy : RepP K F H e y) (h : binV .fdiv d e = some (fr, z)) (q : Res K σ ρ F H fr z Q) : rI CDivN (fun i j => .int (i.fdiv j)) x y H Q := by
  unfold binV at h
  split at h <;> first | (cases h; done) | skip
  all_goals first | (rename_i hh; cases hh; done) | skip
  split at h
  · rename_i hl
    cases h; exact ⟨_, _, hx.int, hy.int, hl, q.now r rfl⟩
  · cases h
theorem mod_of {Q : VK} (r : Rel K F H ρ σ) (hx : RepP K F H d x) (hy : RepP K F H e y) (h : binV .mod d e = some (fr, z)) (q : Res K σ ρ F H fr z Q) : rI (fun _ j => j ≠ 0) (fun i j => .int (i.fmod j)) x y H Q := by
  unfold binV at h
  split at h <;> first | (cases h; done) | skip
  all_goals first | (rename_i hh; cases hh; done) | skip
  split at h
  · rename_i hl
    cases h; exact ⟨_, _, hx.int, hy.int, hl, q.now r rfl⟩
  · cases h
theorem pow_of {Q : VK} (r : Rel K F H ρ σ) (hx : RepP K F H d x) (hy : RepP K F H e y) (h : binV .pow d e = some (fr, z)) (q : Res K σ ρ F H fr z Q) : rI CPow (fun i j => .int (i ^ j.toNat)) x y H Q := by
  unfold binV at h
  split at h <;> first | (cases h; done) | skip
  all_goals first | (rename_i hh; cases hh; done) | skip
  split at h
  · rename_i hl
    cases h; exact ⟨_, _, hx.int, hy.int, hl, q.now r rfl⟩
  · cases h

/-! ### comparisons -/
def astB : BOp → Operator
  | .add => .Add | .sub => .Sub | .mul => .Mult | .fdiv => .FloorDiv | .mod => .Mod | .pow => .Pow | .shl => .LShift | .shr => .RShift
theorem bin_of {X : Cx} (op : BOp) : ∃ rr : R2, OpR X (binaryOp (astB op)) rr ∧ ∀ {F : FS} {H : Hp} {ρ : Rho} {σ : L2.St} {d e z : PV} {x y : V} {fr : Bool} {Q : VK}, Rel X.K F H ρ σ → RepP X.K F H d x → RepP X.K F H e y →
    binV op d e = some (fr, z) → Res X.K σ ρ F H fr z Q → rr x y H Q := by
  cases op with
  | add => exact ⟨_, op_addN, fun r hx hy h q => add_of r hx hy h q⟩
  | sub => exact ⟨_, op_sub, fun r hx hy h q => sub_of r hx hy h q⟩
  | mul => exact ⟨_, op_mulN, fun r hx hy h q => mul_of r hx hy h q⟩
  | fdiv => exact ⟨_, op_fdivN, fun r hx hy h q => fdiv_of r hx hy h q⟩
  | mod => exact ⟨_, op_modN, fun r hx hy h q => mod_of r hx hy h q⟩
  | pow => exact ⟨_, op_pow, fun r hx hy h q => pow_of r hx hy h q⟩
  | shl => exact ⟨fun _ _ _ _ => False, fun _ _ _ _ _ _ _ _ _ _ _ _ z => z.elim, fun r hx hy h q => by unfold binV at h; split at h <;> first | (cases h; done) | (rename_i hh; cases hh; done)⟩
  | shr => exact ⟨fun _ _ _ _ => False, fun _ _ _ _ _ _ _ _ _ _ _ _ z => z.elim, fun r hx hy h q => by unfold binV at h; split at h <;> first | (cases h; done) | (rename_i hh; cases hh; done)⟩

mutual
theorem Rep.dp : ∀ (d : PV) (v : V), Rep K F H d v → plain d = true → Dp K H v (toPD d)
  | .non, _, h, _ => by cases h; exact .non
  | .bl b, _, h, _ => by cases h; exact .bl b
  | .int i, _, h, _ => by cases h; exact .int i
  | .str x, _, h, _ => by cases h; exact .str _
  | .tup ds, _, ⟨a, vs, e, f, r⟩, p => by subst e; exact .tup f.seq (Reps.dp ds vs r p)
  | .lst ds, _, ⟨a, vs, e, f, r⟩, p => by subst e; exact .lst f.seq (Reps.dp ds vs r p)
  | .dct _ _, _, _, p => nomatch p
  | .set _, _, _, p => nomatch p
  | .scr _, _, _, p => nomatch p
theorem Reps.dp : ∀ (ds : List PV) (vs : List V), Reps K F H ds vs → plains ds = true → DpAll K H vs (toPDs ds)
  | [], _, h, _ => by cases h; exact .nil
  | d :: ds, _, ⟨v, r, e, h1, h2⟩, p => by
    subst e
    have p' : plain d = true ∧ plains ds = true := by simpa [plains] using p
    exact .cons (Rep.dp d v h1 p'.1) (Reps.dp ds r h2 p'.2)
end
theorem RepP.dp (h : RepP K F H d x) (p : plain d = true) : Dp K H x (toPD d) := by
  rcases h with h | ⟨a, e, o⟩
  · exact h.dp _ _ p
  · subst e
    obtain ⟨_, o⟩ := o
    cases d <;> first | exact o.elim | skip
    · obtain ⟨vs, h1, h2⟩ := o
      exact .lst (.of h1) (Reps.dp _ _ h2 p)
    · cases p
theorem eqOk_of (h : eqOk d = true) : plain d = true ∧ SeqAt.shaped (toPD d) = true := by simpa [eqOk] using h
theorem strEq (s t : List Nat) : decide (V.str ⟨s.toArray⟩ = V.str ⟨t.toArray⟩) = (s == t) := by
  by_cases e : s = t
  · subst e; simp
  · have : ¬ V.str ⟨s.toArray⟩ = V.str ⟨t.toArray⟩ := fun z => by
      injection z with z; injection z with z
      exact e (by simpa using congrArg Array.toList z)
    rw [decide_eq_false this]
    exact (beq_eq_false_iff_ne.mpr e).symm
theorem eqS_scal {c : Bool} (hx : RepP K F H d x) (hy : RepP K F H e y) (h : eqS? d e = some c) : scal x y = true ∧ decide (x = y) = c := by
  unfold eqS? at h
  split at h <;> first | (cases h; done) | skip
  all_goals (cases h)
  · rw [hx.non, hy.non]; exact ⟨rfl, rfl⟩
  · rw [hx.bl, hy.bl]; exact ⟨rfl, by rw [Bool.eq_iff_iff]; simp⟩
  · rw [hx.int, hy.int]; exact ⟨rfl, by rw [Bool.eq_iff_iff]; simp⟩
  · rw [hx.str, hy.str]; exact ⟨rfl, strEq _ _⟩
  · rw [hx.int, hy.str]; exact ⟨rfl, decide_eq_false nofun⟩
  · rw [hx.str, hy.int]; exact ⟨rfl, decide_eq_false nofun⟩
  · rw [hx.bl, hy.str]; exact ⟨rfl, decide_eq_false nofun⟩
  · rw [hx.str, hy.bl]; exact ⟨rfl, decide_eq_false nofun⟩
  · rw [hx.non, hy.int]; exact ⟨rfl, decide_eq_false nofun⟩
  · rw [hx.int, hy.non]; exact ⟨rfl, decide_eq_false nofun⟩
  · rw [hx.non, hy.str]; exact ⟨rfl, decide_eq_false nofun⟩
  · rw [hx.str, hy.non]; exact ⟨rfl, decide_eq_false nofun⟩
  · rw [hx.non, hy.bl]; exact ⟨rfl, decide_eq_false nofun⟩
  · rw [hx.bl, hy.non]; exact ⟨rfl, decide_eq_false nofun⟩
abbrev rEqN (K : PySem.W.Frag) : R2 := fun x y H Q => rEq x y H Q ∨ rEqD K x y H Q
abbrev rNeN (K : PySem.W.Frag) : R2 := fun x y H Q => rNe x y H Q ∨ rNeD K x y H Q
theorem eq_of {Q : VK} {c : Bool} (r : Rel K F H ρ σ) (hx : RepP K F H d x) (hy : RepP K F H e y) (h : cmpV .eq d e = some c) (q : Res K σ ρ F H false (.bl c) Q) : rEqN K x y H Q := by
  simp only [cmpV] at h
  split at h
  · rename_i c' e1
    cases h
    obtain ⟨h1, h2⟩ := eqS_scal hx hy e1
    exact .inl ⟨h1, by rw [h2]; exact q.now r rfl⟩
  · split at h
    · rename_i hl
      cases h
      simp only [Bool.and_eq_true] at hl
      obtain ⟨p1, s1⟩ := eqOk_of hl.1
      obtain ⟨p2, s2⟩ := eqOk_of hl.2
      exact .inr ⟨_, _, hx.dp p1, hy.dp p2, s1, s2, q.now r rfl⟩
    · cases h
theorem ne_of' {Q : VK} {c : Bool} (r : Rel K F H ρ σ) (hx : RepP K F H d x) (hy : RepP K F H e y) (h : cmpV .ne d e = some c) (q : Res K σ ρ F H false (.bl c) Q) : rNeN K x y H Q := by
  simp only [cmpV] at h
  split at h
  · rename_i c' e1
    cases h
    obtain ⟨h1, h2⟩ := eqS_scal hx hy e1
    exact .inl ⟨h1, by rw [h2]; exact q.now r rfl⟩
  · split at h
    · rename_i hl
      cases h
      simp only [Bool.and_eq_true] at hl
      obtain ⟨p1, s1⟩ := eqOk_of hl.1
      obtain ⟨p2, s2⟩ := eqOk_of hl.2
      exact .inr ⟨_, _, hx.dp p1, hy.dp p2, s1, s2, q.now r rfl⟩
    · cases h
end
end Cw
set_option Elab.async false
set_option linter.all false
set_option maxRecDepth 100000
set_option maxHeartbeats 4000000
set_option autoImplicit false
/-! Cw, part E: in, dicts, subscripts, slices -/
namespace Cw
open PySem L2

section
variable {K : PySem.W.Frag} {EA : Nat → Addr} {W : WX} {σ : L2.St} {F F' : FS} {H H' : Hp} {ρ ρ' : Rho} {d e z : PV} {x y v : V} {fr : Bool}

/-! ### keys -/
theorem keyOf_inj : ∀ {a b : PV} {ka kb : Key}, keyOf a = some ka → keyOf b = some kb → keyEq a b = decide (ka = kb)
  | .int i, .int j, _, _, h1, h2 => by cases h1; cases h2; rw [key_ll]; rfl
  | .str i, .str j, _, _, h1, h2 => by
    cases h1; cases h2; rw [key_rr]
    show (i == j) = _
    by_cases e : i = j
    · subst e; simp
    · rw [decide_eq_false fun z => e (by injection z with z; simpa using congrArg Array.toList z)]; exact beq_eq_false_iff_ne.mpr e
  | .int i, .str j, _, _, h1, h2 => by cases h1; cases h2; rw [key_lr]; rfl
  | .str i, .int j, _, _, h1, h2 => by cases h1; cases h2; rw [key_rl]; rfl
  | .non, _, _, _, h1, _ => nomatch h1
  | .bl _, _, _, _, h1, _ => nomatch h1
  | .tup _, _, _, _, h1, _ => nomatch h1
  | .lst _, _, _, _, h1, _ => nomatch h1
  | .dct _ _, _, _, _, h1, _ => nomatch h1
  | .set _, _, _, _, h1, _ => nomatch h1
  | .scr _, _, _, _, h1, _ => nomatch h1
  | _, .non, _, _, _, h1 => nomatch h1
  | _, .bl _, _, _, _, h1 => nomatch h1
  | _, .tup _, _, _, _, h1 => nomatch h1
  | _, .lst _, _, _, _, h1 => nomatch h1
  | _, .dct _ _, _, _, _, h1 => nomatch h1
  | _, .set _, _, _, _, h1 => nomatch h1
  | _, .scr _, _, _, _, h1 => nomatch h1
theorem keysOf_cons {a : PV} {as : List PV} {k : List Key} (h : keysOf (a :: as) = some k) : ∃ ka ks, keyOf a = some ka ∧ keysOf as = some ks ∧ k = ka :: ks := by
  simp only [keysOf] at h
  split at h
  · rename_i x y h1 h2
    cases h
    exact ⟨x, y, h1, h2, rfl⟩
  · cases h
theorem keysOf_inj : ∀ {a b : List PV} {ka kb : List Key}, keysOf a = some ka → keysOf b = some kb → keysEq a b = decide (ka = kb)
  | [], [], _, _, h1, h2 => by cases h1; cases h2; rfl
  | [], b :: bs, _, _, h1, h2 => by
    cases h1
    obtain ⟨kb, ks, _, _, rfl⟩ := keysOf_cons h2
    rfl
  | a :: as, [], _, _, h1, h2 => by
    cases h2
    obtain ⟨kb, ks, _, _, rfl⟩ := keysOf_cons h1
    rfl
  | a :: as, b :: bs, _, _, h1, h2 => by
    obtain ⟨ka, ks, q1, q2, rfl⟩ := keysOf_cons h1
    obtain ⟨kb, ls, q3, q4, rfl⟩ := keysOf_cons h2
    have e1 := keyOf_inj q1 q3
    have e2 := keysOf_inj q2 q4
    simp only [keysEq, e1, e2, List.cons.injEq, Bool.decide_and]
theorem tkeyOf_inj {a b : PV} {ka kb : List Key} (h1 : tkeyOf a = some ka) (h2 : tkeyOf b = some kb) : keyEq a b = decide (ka = kb) := by
  cases a <;> first | (cases h1; done) | skip
  cases b <;> first | (cases h2; done) | skip
  simp only [keyEq]
  exact keysOf_inj h1 h2
/-- the value at a key of kind 0 -/
theorem RepKs.get {k : PV} {kk : Key} (hk : keyOf k = some kk) : ∀ {kvs : List (PV × PV)} {ks : List (Key × V)}, RepKs K F H kvs ks → (dGet kvs k = none ∧ valV ks kk = none) ∨ ∃ d v, dGet kvs k = some d ∧ valV ks kk = some v ∧ Rep K F H d v
  | [], _, h => by cases h; exact .inl ⟨rfl, rfl⟩
  | (k', d') :: r, _, ⟨kk', v', t, e, h0, h1, h2⟩ => by
    subst e
    have q := keyOf_inj h0 hk
    by_cases c : kk' = kk
    · rw [decide_eq_true c] at q
      refine .inr ⟨d', v', by simp [dGet, List.find?_cons, q], valV_pos c, h1⟩
    · rw [decide_eq_false c] at q
      have e1 : dGet ((k', d') :: r) k = dGet r k := by simp [dGet, List.find?_cons, q]
      rw [e1, valV_neg c]
      exact RepKs.get hk h2
theorem RepTs.get {k : PV} {kk : List Key} (hk : tkeyOf k = some kk) : ∀ {kvs : List (PV × PV)} {ks : List (List Key × V)}, RepTs K F H kvs ks → (dGet kvs k = none ∧ valV ks kk = none) ∨ ∃ d v, dGet kvs k = some d ∧ valV ks kk = some v ∧ Rep K F H d v
  | [], _, h => by cases h; exact .inl ⟨rfl, rfl⟩
  | (k', d') :: r, _, ⟨kk', v', t, e, h0, h1, h2⟩ => by
    subst e
    have q := tkeyOf_inj h0 hk
    by_cases c : kk' = kk
    · rw [decide_eq_true c] at q
      refine .inr ⟨d', v', by simp [dGet, List.find?_cons, q], valV_pos c, h1⟩
    · rw [decide_eq_false c] at q
      have e1 : dGet ((k', d') :: r) k = dGet r k := by simp [dGet, List.find?_cons, q]
      rw [e1, valV_neg c]
      exact RepTs.get hk h2
theorem RepKs.any {k : PV} {kk : Key} (hk : keyOf k = some kk) : ∀ {kvs : List (PV × PV)} {ks : List (Key × V)}, RepKs K F H kvs ks → (kvs.any fun kv => keyEq kv.1 k) = ks.any fun kv => decide (kv.1 = kk)
  | [], _, h => by cases h; rfl
  | (k', d') :: r, _, ⟨kk', v', t, e, h0, h1, h2⟩ => by
    subst e
    rw [List.any_cons, List.any_cons, RepKs.any hk h2, keyOf_inj h0 hk]
theorem RepTs.any {k : PV} {kk : List Key} (hk : tkeyOf k = some kk) : ∀ {kvs : List (PV × PV)} {ks : List (List Key × V)}, RepTs K F H kvs ks → (kvs.any fun kv => keyEq kv.1 k) = ks.any fun kv => decide (kv.1 = kk)
  | [], _, h => by cases h; rfl
  | (k', d') :: r, _, ⟨kk', v', t, e, h0, h1, h2⟩ => by
    subst e
    rw [List.any_cons, List.any_cons, RepTs.any hk h2, tkeyOf_inj h0 hk]
theorem RepKs.app : ∀ {kvs more : List (PV × PV)} {ks ls : List (Key × V)}, RepKs K F H kvs ks → RepKs K F H more ls → RepKs K F H (kvs ++ more) (ks ++ ls)
  | [], _, _, _, h, g => by cases h; exact g
  | (k', d') :: r, _, _, _, ⟨kk', v', t, e, h0, h1, h2⟩, g => by subst e; exact ⟨kk', v', _, rfl, h0, h1, RepKs.app h2 g⟩
theorem RepTs.app : ∀ {kvs more : List (PV × PV)} {ks ls : List (List Key × V)}, RepTs K F H kvs ks → RepTs K F H more ls → RepTs K F H (kvs ++ more) (ks ++ ls)
  | [], _, _, _, h, g => by cases h; exact g
  | (k', d') :: r, _, _, _, ⟨kk', v', t, e, h0, h1, h2⟩, g => by subst e; exact ⟨kk', v', _, rfl, h0, h1, RepTs.app h2 g⟩
theorem RepKs.rpl {k : PV} {kk : Key} {d : PV} {v : V} (hk : keyOf k = some kk) (hd : Rep K F H d v) : ∀ {kvs : List (PV × PV)} {ks : List (Key × V)}, RepKs K F H kvs ks →
    RepKs K F H (kvs.map fun kv => if keyEq kv.1 k = true then (kv.1, d) else kv) (ks.map fun kv => if kv.1 = kk then (kv.1, v) else kv)
  | [], _, h => by cases h; rfl
  | (k', d') :: r, _, ⟨kk', v', t, e, h0, h1, h2⟩ => by
    subst e
    rw [List.map_cons, List.map_cons]
    have q := keyOf_inj h0 hk
    by_cases c : kk' = kk
    · rw [decide_eq_true c] at q
      rw [if_pos q, if_pos c]
      exact ⟨kk', v, _, rfl, h0, hd, RepKs.rpl hk hd h2⟩
    · rw [decide_eq_false c] at q
      rw [if_neg (by rw [q]; exact Bool.false_ne_true), if_neg c]
      exact ⟨kk', v', _, rfl, h0, h1, RepKs.rpl hk hd h2⟩
theorem RepTs.rpl {k : PV} {kk : List Key} {d : PV} {v : V} (hk : tkeyOf k = some kk) (hd : Rep K F H d v) : ∀ {kvs : List (PV × PV)} {ks : List (List Key × V)}, RepTs K F H kvs ks →
    RepTs K F H (kvs.map fun kv => if keyEq kv.1 k = true then (kv.1, d) else kv) (ks.map fun kv => if kv.1 = kk then (kv.1, v) else kv)
  | [], _, h => by cases h; rfl
  | (k', d') :: r, _, ⟨kk', v', t, e, h0, h1, h2⟩ => by
    subst e
    rw [List.map_cons, List.map_cons]
    have q := tkeyOf_inj h0 hk
    by_cases c : kk' = kk
    · rw [decide_eq_true c] at q
      rw [if_pos q, if_pos c]
      exact ⟨kk', v, _, rfl, h0, hd, RepTs.rpl hk hd h2⟩
    · rw [decide_eq_false c] at q
      rw [if_neg (by rw [q]; exact Bool.false_ne_true), if_neg c]
      exact ⟨kk', v', _, rfl, h0, h1, RepTs.rpl hk hd h2⟩
theorem RepKs.put {k : PV} {kk : Key} {d : PV} {v : V} (hk : keyOf k = some kk) (hd : Rep K F H d v) {kvs : List (PV × PV)} {ks : List (Key × V)} (h : RepKs K F H kvs ks) : RepKs K F H (dPut kvs k d) (putK ks kk v) := by
  unfold dPut putK
  rw [h.any hk]
  split
  · exact h.rpl hk hd
  · exact h.app ⟨kk, v, [], rfl, hk, hd, rfl⟩
theorem RepTs.put {k : PV} {kk : List Key} {d : PV} {v : V} (hk : tkeyOf k = some kk) (hd : Rep K F H d v) {kvs : List (PV × PV)} {ks : List (List Key × V)} (h : RepTs K F H kvs ks) : RepTs K F H (dPut kvs k d) (putK ks kk v) := by
  unfold dPut putK
  rw [h.any hk]
  split
  · exact h.rpl hk hd
  · exact h.app ⟨kk, v, [], rfl, hk, hd, rfl⟩
theorem RepKs.len : ∀ {kvs : List (PV × PV)} {ks : List (Key × V)}, RepKs K F H kvs ks → ks.length = kvs.length
  | [], _, h => by cases h; rfl
  | (k', d') :: r, _, ⟨kk', v', t, e, h0, h1, h2⟩ => by subst e; rw [List.length_cons, List.length_cons, RepKs.len h2]
theorem RepTs.len : ∀ {kvs : List (PV × PV)} {ks : List (List Key × V)}, RepTs K F H kvs ks → ks.length = kvs.length
  | [], _, h => by cases h; rfl
  | (k', d') :: r, _, ⟨kk', v', t, e, h0, h1, h2⟩ => by subst e; rw [List.length_cons, List.length_cons, RepTs.len h2]
theorem keyOf_rep {k : PV} {kk : Key} (h : keyOf k = some kk) (hy : RepP K F H k y) : y = kV kk := by
  cases k <;> first | (cases h; done) | skip
  · cases h; exact hy.int
  · cases h; exact hy.str
theorem keysOf_rep : ∀ {ks : List PV} {kk : List Key} {vs : List V}, keysOf ks = some kk → Reps K F H ks vs → vs = kk.map kV
  | [], _, _, h, r => by cases h; cases r; rfl
  | k :: ks, _, _, h, ⟨v, w, e, h1, h2⟩ => by
    obtain ⟨ka, kb, q1, q2, rfl⟩ := keysOf_cons h
    rw [e, keyOf_rep q1 (.inl h1), keysOf_rep q2 h2]; rfl
theorem tkeyOf_rep {k : PV} {kk : List Key} (h : tkeyOf k = some kk) (hy : RepP K F H k y) : ∃ b, y = .ref b ∧ H b = some (.tup (kk.map kV)) := by
  cases k <;> first | (cases h; done) | skip
  obtain ⟨a, vs, e, fa, ha, ra⟩ := hy.tup
  exact ⟨a, e, by rw [ha, keysOf_rep h ra]⟩
/-- d at a key -/
theorem dct_get {kd : Nat} {kvs : List (PV × PV)} {k : PV} (hx : RepP K F H (.dct kd kvs) x) (hy : RepP K F H k y) (hf : keyFit kd k = true) :
    ∃ a, x = .ref a ∧ ((dGet kvs k = none ∧ DGet H a y none) ∨ ∃ d v, dGet kvs k = some d ∧ DGet H a y (some v) ∧ Rep K F H d v) := by
  obtain ⟨a, e, h⟩ := hx.dct
  refine ⟨a, e, ?_⟩
  rcases h with ⟨rfl, ks, h1, h2⟩ | ⟨rfl, ks, h1, h2⟩
  · obtain ⟨kk, hk⟩ := Option.isSome_iff_exists.mp (show (keyOf k).isSome = true from hf)
    have ey := keyOf_rep hk hy
    subst ey
    have g : DGet H a (kV kk) (valV ks kk) := .k h1
    rcases h2.get hk with ⟨q1, q2⟩ | ⟨d, v, q1, q2, q3⟩
    · rw [q2] at g; exact .inl ⟨q1, g⟩
    · rw [q2] at g; exact .inr ⟨d, v, q1, g, q3⟩
  · obtain ⟨kk, hk⟩ := Option.isSome_iff_exists.mp (show (tkeyOf k).isSome = true from hf)
    obtain ⟨b, ey, hb⟩ := tkeyOf_rep hk hy
    subst ey
    have g : DGet H a (.ref b) (valV ks kk) := .t h1 hb
    rcases h2.get hk with ⟨q1, q2⟩ | ⟨d, v, q1, q2, q3⟩
    · rw [q2] at g; exact .inl ⟨q1, g⟩
    · rw [q2] at g; exact .inr ⟨d, v, q1, g, q3⟩

/-! ### in -/
def rDIn (neg : Bool) : R2 := fun y x H Q => ∃ a o, x = .ref a ∧ DGet H a y o ∧ Q (.bl (if neg then !o.isSome else o.isSome)) H
theorem op_dIn {X : Cx} (hu : X.A.units + 1 < cLine) : OpR X (compareOp .In) (rDIn false) := by
  intro pins s σ H y x v u Q I ry rx h
  obtain ⟨a, o, rfl, g, q⟩ := h
  obtain rfl : u = Value.ref a := rx
  exact d_in hu I g ry fun s' I' => ⟨.bl o.isSome, H, I', rfl, q⟩
theorem op_dNotIn {X : Cx} (hu : X.A.units + 1 < cLine) : OpR X (compareOp .NotIn) (rDIn true) := by
  intro pins s σ H y x v u Q I ry rx h
  obtain ⟨a, o, rfl, g, q⟩ := h
  obtain rfl : u = Value.ref a := rx
  exact d_notIn hu I g ry fun s' I' => ⟨.bl (!o.isSome), H, I', rfl, q⟩
theorem scal_flat (h : isScal d = true) (hx : RepP K F H d x) : flatV x = true := by
  cases d <;> first | (cases h; done) | skip
  · rw [hx.non]; rfl
  · rw [hx.bl]; rfl
  · rw [hx.int]; rfl
  · rw [hx.str]; rfl
theorem eqS_eqV (h1 : isScal d = true) (h2 : isScal e = true) (hx : RepP K F H d x) (hy : RepP K F H e y) : eqV x y = eqS d e := by
  cases d <;> first | (cases h1; done) | skip
  all_goals cases e <;> first | (cases h2; done) | skip
  all_goals first
    | (rw [hx.non, hy.non]; rfl) | (rw [hx.non, hy.bl]; rfl) | (rw [hx.non, hy.int]; rfl) | (rw [hx.non, hy.str]; rfl)
    | (rw [hx.bl, hy.non]; rfl) | (rw [hx.bl, hy.bl]; rfl) | (rw [hx.bl, hy.int]; rfl) | (rw [hx.bl, hy.str]; rfl)
    | (rw [hx.int, hy.non]; rfl) | (rw [hx.int, hy.bl]; rfl) | (rw [hx.int, hy.int]; rfl) | (rw [hx.int, hy.str]; rfl)
    | (rw [hx.str, hy.non]; rfl) | (rw [hx.str, hy.bl]; rfl) | (rw [hx.str, hy.int]; rfl)
    | (rw [hx.str, hy.str]; rename_i s t
       show ((⟨s.toArray⟩ : Str) == ⟨t.toArray⟩) = (s == t)
       by_cases q : s = t
       · subst q; simp
       · rw [beq_eq_false_iff_ne.mpr q]
         exact beq_eq_false_iff_ne.mpr fun z => q (by injection z with z; simpa using congrArg Array.toList z))
theorem scals : ∀ {ds : List PV} {vs : List V}, ds.all isScal = true → Reps K F H ds vs → vs.all flatV = true
  | [], _, _, h => by cases h; rfl
  | d :: ds, _, p, ⟨v, r, e, h1, h2⟩ => by
    subst e
    rw [List.all_cons, Bool.and_eq_true] at p ⊢
    exact ⟨scal_flat p.1 (.inl h1), scals p.2 h2⟩
theorem inV_of (h1 : isScal d = true) (hx : RepP K F H d x) : ∀ {ds : List PV} {vs : List V}, ds.all isScal = true → Reps K F H ds vs → inV x vs = ds.any fun y => eqS y d
  | [], _, _, h => by cases h; rfl
  | e :: ds, _, p, ⟨v, r, q, h2, h3⟩ => by
    subst q
    rw [List.all_cons, Bool.and_eq_true] at p
    have ih := inV_of h1 hx p.2 h3
    show (eqV v x || inV x r) = (eqS e d || _)
    rw [ih, eqS_eqV p.1 h1 (.inl h2) hx]
theorem any_toPDs (d : PV) : ∀ ys : List PV, (toPDs ys).any (fun z => PyData.eqv z (toPD d)) = ys.any fun y => eqV' y d
  | [] => rfl
  | y :: ys => by simp only [toPDs, List.any_cons, any_toPDs d ys, eqV']
abbrev rInN (K : PySem.W.Frag) (neg : Bool) : R2 := fun x y H Q => (rDIn neg x y H Q ∨ rIn K neg x y H Q) ∨ (if neg then rNotInD K x y H Q else rInD K x y H Q)
theorem op_inN {X : Cx} (hu : X.A.units + 65 < cLine) : OpR X (compareOp .In) (rInN X.K false) := ((op_dIn (by omega)).or op_in_seq).or (op_inD hu)
theorem op_notInN {X : Cx} (hu : X.A.units + 65 < cLine) : OpR X (compareOp .NotIn) (rInN X.K true) := ((op_dNotIn (by omega)).or op_notIn_seq).or (op_notInD hu)
theorem in_of {Q : VK} {c : Bool} (r : Rel K F H ρ σ) (hx : RepP K F H d x) (hy : RepP K F H e y) (h : cmpV .isin d e = some c) (q : Res K σ ρ F H false (.bl c) Q) : rInN K false x y H Q := by
  unfold cmpV at h
  split at h <;> first | (cases h; done) | skip
  all_goals first | (rename_i hh; cases hh; done) | skip
  · split at h
    · rename_i hf
      cases h
      obtain ⟨a, rfl, g⟩ := dct_get hy hx hf
      rcases g with ⟨q1, g⟩ | ⟨d', v, q1, g, _⟩
      · rw [q1] at q; exact .inl (.inl ⟨a, _, rfl, g, q.now r rfl⟩)
      · rw [q1] at q; exact .inl (.inl ⟨a, _, rfl, g, q.now r rfl⟩)
    · cases h
  · split at h
    · rename_i hf
      cases h
      rw [Bool.and_eq_true] at hf
      obtain ⟨a, vs, rfl, fa, ha, ra⟩ := hy.tup
      refine .inl (.inr ⟨a, vs, rfl, .inr (.of ha), scal_flat hf.1 hx, scals hf.2 ra, ?_⟩)
      rw [inV_of hf.1 hx hf.2 ra]
      exact q.now r rfl
    · cases h
  · obtain ⟨a, vs, rfl, ha, ra⟩ := hy.lst
    split at h
    · rename_i hf
      cases h
      rw [Bool.and_eq_true] at hf
      refine .inl (.inr ⟨a, vs, rfl, .inl (.of ha), scal_flat hf.1 hx, scals hf.2 ra, ?_⟩)
      rw [inV_of hf.1 hx hf.2 ra]
      exact q.now r rfl
    · split at h
      · rename_i hf
        cases h
        rw [Bool.and_eq_true] at hf
        obtain ⟨p1, s1⟩ := eqOk_of hf.1
        obtain ⟨p2, s2⟩ := eqOk_of hf.2
        refine .inr ⟨_, _, hx.dp p1, hy.dp p2, s1, s2, ?_⟩
        rw [any_toPDs]
        exact q.now r rfl
      · cases h
theorem notIn_of {Q : VK} {c : Bool} (r : Rel K F H ρ σ) (hx : RepP K F H d x) (hy : RepP K F H e y) (h : cmpV .notin d e = some c) (q : Res K σ ρ F H false (.bl c) Q) : rInN K true x y H Q := by
  unfold cmpV at h
  split at h <;> first | (cases h; done) | skip
  all_goals first | (rename_i hh; cases hh; done) | skip
  · split at h
    · rename_i hf
      cases h
      obtain ⟨a, rfl, g⟩ := dct_get hy hx hf
      rcases g with ⟨q1, g⟩ | ⟨d', v, q1, g, _⟩
      · rw [q1] at q; exact .inl (.inl ⟨a, _, rfl, g, q.now r rfl⟩)
      · rw [q1] at q; exact .inl (.inl ⟨a, _, rfl, g, q.now r rfl⟩)
    · cases h
  · split at h
    · rename_i hf
      cases h
      rw [Bool.and_eq_true] at hf
      obtain ⟨a, vs, rfl, fa, ha, ra⟩ := hy.tup
      refine .inl (.inr ⟨a, vs, rfl, .inr (.of ha), scal_flat hf.1 hx, scals hf.2 ra, ?_⟩)
      rw [inV_of hf.1 hx hf.2 ra]
      exact q.now r rfl
    · cases h
  · obtain ⟨a, vs, rfl, ha, ra⟩ := hy.lst
    split at h
    · rename_i hf
      cases h
      rw [Bool.and_eq_true] at hf
      refine .inl (.inr ⟨a, vs, rfl, .inl (.of ha), scal_flat hf.1 hx, scals hf.2 ra, ?_⟩)
      rw [inV_of hf.1 hx hf.2 ra]
      exact q.now r rfl
    · split at h
      · rename_i hf
        cases h
        rw [Bool.and_eq_true] at hf
        obtain ⟨p1, s1⟩ := eqOk_of hf.1
        obtain ⟨p2, s2⟩ := eqOk_of hf.2
        refine .inr ⟨_, _, hx.dp p1, hy.dp p2, s1, s2, ?_⟩
        rw [any_toPDs]
        exact q.now r rfl
      · cases h

def astC : COp → CmpOp
  | .lt => .Lt | .le => .LtE | .gt => .Gt | .ge => .GtE | .eq => .Eq | .ne => .NotEq | .isin => .In | .notin => .NotIn
theorem cmp_of {X : Cx} (hu : X.A.units + 65 < cLine) (op : COp) : ∃ rr : R2, OpR X (compareOp (astC op)) rr ∧ ∀ {F : FS} {H : Hp} {ρ : Rho} {σ : L2.St} {d e : PV} {x y : V} {c : Bool} {Q : VK}, Rel X.K F H ρ σ → RepP X.K F H d x → RepP X.K F H e y →
    cmpV op d e = some c → Res X.K σ ρ F H false (.bl c) Q → rr x y H Q := by
  cases op with
  | lt => exact ⟨_, op_lt, fun {F H ρ σ d e x y c Q} r hx hy h q => by
      unfold cmpV at h
      split at h <;> first | (cases h; done) | skip
      all_goals first | (rename_i hh; cases hh; done) | skip
      cases h; exact ⟨_, _, hx.int, hy.int, q.now r rfl⟩⟩
  | le => exact ⟨_, op_le, fun {F H ρ σ d e x y c Q} r hx hy h q => by
      unfold cmpV at h
      split at h <;> first | (cases h; done) | skip
      all_goals first | (rename_i hh; cases hh; done) | skip
      cases h; exact ⟨_, _, hx.int, hy.int, q.now r rfl⟩⟩
  | gt => exact ⟨_, op_gt, fun {F H ρ σ d e x y c Q} r hx hy h q => by
      unfold cmpV at h
      split at h <;> first | (cases h; done) | skip
      all_goals first | (rename_i hh; cases hh; done) | skip
      cases h; exact ⟨_, _, hx.int, hy.int, q.now r rfl⟩⟩
  | ge => exact ⟨_, op_ge, fun {F H ρ σ d e x y c Q} r hx hy h q => by
      unfold cmpV at h
      split at h <;> first | (cases h; done) | skip
      all_goals first | (rename_i hh; cases hh; done) | skip
      cases h; exact ⟨_, _, hx.int, hy.int, q.now r rfl⟩⟩
  | eq => exact ⟨_, op_eq.or (op_eqD (by omega)), fun r hx hy h q => eq_of r hx hy h q⟩
  | ne => exact ⟨_, op_ne.or (op_neD (by omega)), fun r hx hy h q => ne_of' r hx hy h q⟩
  | isin => exact ⟨_, op_inN hu, fun r hx hy h q => in_of r hx hy h q⟩
  | notin => exact ⟨_, op_notInN hu, fun r hx hy h q => notIn_of r hx hy h q⟩

/-! ### subscripts -/
def rIxD : R2 := fun x y H Q => ∃ a v, x = .ref a ∧ DGet H a y (some v) ∧ Q v H
theorem ix_dict {X : Cx} (hu : X.A.units + 1 < cLine) : IxR X rIxD := by
  intro value slice pins s σ H x y v u Q I rx ry h hs
  obtain ⟨a, z, rfl, g, q⟩ := h
  obtain rfl : v = Value.ref a := rx
  exact PyProof.Rows.tail_any (dict_typeIs I g) PySem.F.slot_dict_getitem.lookup (d_getItem hu I g ry fun w' s' I' r' => ⟨z, H, I', r', q⟩) hs
abbrev rIxN (K : PySem.W.Frag) : R2 := fun x y H Q => rIxD x y H Q ∨ rIx K x y H Q
theorem ix_any {X : Cx} (hu : X.A.units + 1 < cLine) : IxR X (rIxN X.K) := (ix_dict hu).or ix_seq
theorem ixAt_atI {ds : List PV} {vs : List V} {i : Int} (h : Reps K F H ds vs) (e : ixAt ds i = some d) : ∃ v, atI vs i = some v ∧ Rep K F H d v := by
  unfold ixAt at e
  unfold atI ixN
  rw [h.len]
  split at e
  · rename_i h0
    split at e
    · rename_i h1
      rw [if_pos h0, if_pos h1]
      exact h.at e
    · cases e
  · rename_i h0
    split at e
    · rename_i h1
      rw [if_neg h0, if_pos h1]
      exact h.at e
    · cases e
theorem idx_of {Q : VK} (r : Rel K F H ρ σ) (hx : RepP K F H d x) (hy : RepP K F H e y) (h : idxV d e = some z) (q : Res K σ ρ F H false z Q) : rIxN K x y H Q := by
  unfold idxV at h
  split at h <;> first | (cases h; done) | skip
  · obtain ⟨a, vs, rfl, fa, ha, ra⟩ := hx.tup
    obtain ⟨v, h1, h2⟩ := ixAt_atI ra h
    exact .inr (.inr (.inl ⟨a, vs, _, v, rfl, hy.int, .of ha, h1, q.now r h2⟩))
  · obtain ⟨a, vs, rfl, ha, ra⟩ := hx.lst
    obtain ⟨v, h1, h2⟩ := ixAt_atI ra h
    exact .inr (.inl ⟨a, vs, _, v, rfl, hy.int, .of ha, h1, q.now r h2⟩)
  · split at h
    · rename_i hf
      obtain ⟨a, rfl, g⟩ := dct_get hx hy hf
      rcases g with ⟨q1, g⟩ | ⟨d', v, q1, g, q3⟩
      · rw [q1] at h; cases h
      · rw [q1] at h; cases h
        exact .inl ⟨a, v, rfl, g, q.now r q3⟩
    · cases h
/-! ### slices -/
abbrev rSlN (K : PySem.W.Frag) : V → Option Int → Option Int → Hp → VK → Prop := fun x lo hi H Q => rSlA K x lo hi H Q ∨ rSlL K x lo hi H Q
theorem sl_any {X : Cx} : SlR X (rSlN X.K) := sl_tupA.or sl_list

theorem Reps.cut {ds : List PV} {vs : List V} (h : Reps K F H ds vs) (lo hi : Option Int) : Reps K F H (cutP ds lo hi) (cutV vs lo hi) := by
  unfold cutP cutV
  rw [h.len]
  exact (h.drop _).take _
theorem cut_whole {ds : List PV} {lo hi : Option Int} (h : HT.sIx ds.length 0 lo = 0 ∧ HT.sIx ds.length ds.length hi = ds.length) : cutP ds lo hi = ds := by
  unfold cutP
  rw [h.1, h.2]
  simp
theorem Reps.ints : ∀ ns : List Int, Reps K F H (ns.map .int) (ns.map V.int)
  | [] => rfl
  | n :: ns => ⟨.int n, _, rfl, rfl, Reps.ints ns⟩
theorem slc_of {Q : VK} {lo hi : Option Int} (r : Rel K F H ρ σ) (hx : RepP K F H d x) (h : slcV d lo hi = some (fr, z)) (q : Res K σ ρ F H fr z Q) : rSlN K x lo hi H Q := by
  unfold slcV at h
  split at h <;> first | (cases h; done) | skip
  · cases h
    obtain ⟨a, vs, rfl, fa, ha, ra⟩ := hx.tup
    refine .inl ⟨a, vs, rfl, .of ha, fun e => ?_, fun _ p hp => q.tup r hp (ra.cut lo hi)⟩
    rw [ra.len] at e
    rw [cut_whole e] at q
    exact q.now r ⟨a, vs, rfl, ⟨fa, ha⟩, ra⟩
  · cases h
    obtain ⟨a, vs, rfl, ha, ra⟩ := hx.lst
    exact .inr ⟨a, vs, rfl, .of ha, fun p hp => q.lst r hp (ra.cut lo hi)⟩
  · cases h
    obtain ⟨a, rfl, ha⟩ := hx.scr
    exact .inr ⟨a, _, rfl, ha, fun p hp => q.lst r hp ((Reps.ints _).cut lo hi)⟩
end
end Cw
set_option Elab.async false
set_option linter.all false
set_option maxRecDepth 100000
set_option maxHeartbeats 4000000
set_option autoImplicit false
/-! Cw, part F: built-ins, methods, stores, truth -/
namespace Cw
open PySem L2

section
variable {K : PySem.W.Frag} {EA : Nat → Addr} {W : WX} {σ : L2.St} {F F' : FS} {H H' : Hp} {ρ ρ' : Rho} {d e z : PV} {x y v : V} {fr : Bool}

theorem Reps.allInt : ∀ {ds : List PV} {vs : List V} {ns : List Int}, allInt ds = some ns → Reps K F H ds vs → vs = ns.map V.int
  | [], _, _, h, r => by cases h; cases r; rfl
  | d :: ds, _, _, h, ⟨v, w, e, h1, h2⟩ => by
    cases d <;> first | (cases h; done) | skip
    rename_i i
    simp only [Cw.allInt, Option.map_eq_some_iff] at h
    obtain ⟨ms, q, rfl⟩ := h
    rw [e, Reps.allInt q h2, show v = V.int i from h1]; rfl
theorem Reps.allBl : ∀ {ds : List PV} {vs : List V} {ns : List Bool}, allBl ds = some ns → Reps K F H ds vs → vs = ns.map V.bl
  | [], _, _, h, r => by cases h; cases r; rfl
  | d :: ds, _, _, h, ⟨v, w, e, h1, h2⟩ => by
    cases d <;> first | (cases h; done) | skip
    rename_i i
    simp only [Cw.allBl, Option.map_eq_some_iff] at h
    obtain ⟨ms, q, rfl⟩ := h
    rw [e, Reps.allBl q h2, show v = V.bl i from h1]; rfl

/-! ### sorting -/
theorem insI_perm (i : Int) : ∀ l : List Int, (insI i l).Perm (i :: l)
  | [] => .refl _
  | j :: r => by
    unfold insI
    split
    · exact .refl _
    · exact ((insI_perm i r).cons j).trans (.swap i j r)
theorem srtI_perm : ∀ l : List Int, (srtI l).Perm l
  | [] => .refl _
  | i :: r => (insI_perm i (srtI r)).trans ((srtI_perm r).cons i)
theorem insI_sorted (i : Int) : ∀ {l : List Int}, l.Pairwise (· ≤ ·) → (insI i l).Pairwise (· ≤ ·)
  | [], _ => by simp [insI]
  | j :: r, h => by
    unfold insI
    rw [List.pairwise_cons] at h
    split
    · rename_i hij
      rw [List.pairwise_cons]
      refine ⟨fun b hb => ?_, by rw [List.pairwise_cons]; exact h⟩
      rcases List.mem_cons.mp hb with rfl | hb
      · exact hij
      · exact Int.le_trans hij (h.1 b hb)
    · rename_i hij
      rw [List.pairwise_cons]
      refine ⟨fun b hb => ?_, insI_sorted i h.2⟩
      rcases List.mem_cons.mp ((insI_perm i r).mem_iff.mp hb) with rfl | hb
      · omega
      · exact h.1 b hb
theorem srtI_sorted : ∀ l : List Int, (srtI l).Pairwise (· ≤ ·)
  | [] => .nil
  | i :: r => insI_sorted i (srtI_sorted r)
theorem sorted_unique {l m : List Int} (p : l.Perm m) (h1 : l.Pairwise (· ≤ ·)) (h2 : m.Pairwise (· ≤ ·)) : l = m :=
  p.eq_of_pairwise (fun a b _ _ h1 h2 => Int.le_antisymm h1 h2) h1 h2
theorem srt_eq {l m : List Int} (p : l.Perm m) (h : l.Pairwise (· ≤ ·)) : l = srtI m := sorted_unique (p.trans (srtI_perm m).symm) h (srtI_sorted m)

/-- which value a built-in's name has -/
def biV : Bi → Value
  | .len => .builtin "len" | .abs => .builtin "abs" | .all => .builtin "all" | .any => .builtin "any" | .sum => .builtin "sum" | .tuple => .type "tuple" | .list => .type "list" | .int => .type "int"
  | .sorted => .builtin "sorted" | .set => .type "set" | .max => .builtin "max" | .min => .builtin "min" | .repr => .builtin "repr" | .str => .type "str"
def biN : Bi → Str
  | .len => "len" | .abs => "abs" | .all => "all" | .any => "any" | .sum => "sum" | .tuple => "tuple" | .list => "list" | .int => "int"
  | .sorted => "sorted" | .set => "set" | .max => "max" | .min => "min" | .repr => "repr" | .str => "str"

theorem CallR.or {X : Cx} {f : Value} {r r' : List V → Hp → VK → Prop} (h : CallR X f r) (h' : CallR X f r') : CallR X f (fun xs H Q => r xs H Q ∨ r' xs H Q) := by
  intro pins s σ H xs us Q I rx q
  rcases q with q | q
  · exact h pins s σ H xs us Q I rx q
  · exact h' pins s σ H xs us Q I rx q
theorem CallR.never {X : Cx} {f : Value} : CallR X f (fun _ _ _ => False) := fun _ _ _ _ _ _ _ _ _ z => z.elim

/-- no dict in plain data -/
theorem plain_noDict : ∀ d : PV, plain d = true → (toPD d).hasDict = false
  | .non, _ => rfl
  | .bl _, _ => rfl
  | .int _, _ => rfl
  | .str _, _ => rfl
  | .tup ds, p => plains_noDict ds p
  | .lst ds, p => plains_noDict ds p
  | .dct _ _, p => nomatch p
  | .set _, p => nomatch p
  | .scr _, p => nomatch p
where plains_noDict : ∀ ds : List PV, plains ds = true → PyData.hasDictAll (toPDs ds) = false
  | [], _ => rfl
  | d :: ds, p => by
    have p' : plain d = true ∧ plains ds = true := by simpa [plains] using p
    simp only [toPDs, PyData.hasDictAll, plain_noDict d p'.1, plains_noDict ds p'.2, Bool.or_self]
/-- repr of plain data -/
theorem call_reprD {X : Cx} (hg : X.A.guards = some []) (hu : X.A.units + 200 < cLine) : CallR X (.builtin "repr") (fun xs H Q => ∃ a d, xs = [V.ref a] ∧ Dp X.K H (.ref a) d ∧ d.hasDict = false ∧ d.showable = true ∧ d.depth ≤ 64 ∧ d.shown.length ≤ sizeLine ∧ Q (.str d.shown) H) := by
  intro pins s σ H xs us Q I r h
  obtain ⟨x, d, rfl, hd, hn, hs, hdp, hz, q⟩ := h
  obtain ⟨u, rfl, rx⟩ := vals1 r
  obtain ⟨as, rd⟩ := Dp.reads I d _ u hd rx
  cases rx
  refine repr_of_reads' (h₀ := s.heap) rd hs (fun z => by rw [hn] at z; cases z) hg (by omega) (fun _ _ z => z) (fun h' u tk k => ?_) hz
  exact ⟨.str d.shown, H, I.kept k, ⟨u, rfl⟩, q⟩
/-- set(..): not yet served -/
abbrev rB1 (X : Cx) : Bi → List V → Hp → VK → Prop
  | .len => fun xs H Q => (∃ x n, xs = [x] ∧ LenV X.K x H n ∧ Q (.int n) H) ∨ (∃ a kvs, xs = [V.ref a] ∧ H a = some (.dK kvs) ∧ Q (.int kvs.length) H)
  | .abs => fun xs H Q => ∃ i, xs = [.int i] ∧ Q (.int (if i < 0 then -i else i)) H
  | .all => rAll X.K
  | .any => rAny X.K
  | .sum => rSum X.K
  | .tuple => fun xs H Q => ∃ p ys, xs = [.ref p] ∧ ((SqL X.K H p ys ∧ ∀ l, H l = none → Q (.ref l) (upd H l (.tup ys))) ∨ (SqT X.K H p ys ∧ Q (.ref p) H))
  | .list => fun xs H Q => ∃ p ys, xs = [.ref p] ∧ (SqL X.K H p ys ∨ SqT X.K H p ys) ∧ ∀ l, H l = none → Q (.ref l) (upd H l (.lst ys))
  | .int => fun xs H Q => (∃ i, xs = [.int i] ∧ Q (.int i) H) ∨ ∃ k, xs = [.bl k] ∧ Q (.int (if k then 1 else 0)) H
  | .sorted => fun xs H Q => rSortedI X.K xs H Q ∨ (∃ (a : Addr) (kvs : List (Key × V)) (ks : List Int), xs = [.ref a] ∧ Rd H a (.dK kvs) ∧ kvs.map (·.1) = ks.map Sum.inl ∧ ks.length < 64 ∧
    ∀ (ys : List Int) (p : Addr), ys.Perm ks → ys.Pairwise (· ≤ ·) → H p = none → Q (.ref p) (upd H p (.lst (ys.map V.int))))
  | .repr => fun xs H Q => ∃ a d, xs = [V.ref a] ∧ Dp X.K H (.ref a) d ∧ d.hasDict = false ∧ d.showable = true ∧ d.depth ≤ 64 ∧ d.shown.length ≤ sizeLine ∧ Q (.str d.shown) H
  | .max => fun xs H Q => ∃ i j, xs = [.int i, .int j] ∧ Q (.int (if j > i then j else i)) H
  | .min => fun xs H Q => ∃ i j, xs = [.int i, .int j] ∧ Q (.int (if j < i then j else i)) H
  | _ => fun _ _ _ => False
theorem call_b1 {X : Cx} (hc : X.calm = true) (hg : X.A.guards = some []) (hu : X.A.units + 200 < cLine) (b : Bi) : CallR X (biV b) (rB1 X b) := by
  cases b with
  | len => exact call_len.or call_lenD
  | abs => exact call_abs
  | all => exact cr_all hc
  | any => exact cr_any hc
  | sum => exact cr_sum hc
  | tuple => exact call_tuple_of
  | list => exact call_list_of
  | int => exact call_int1
  | sorted => exact cr_sortedI.or (call_sortedDI hc)
  | repr => exact call_reprD hg hu
  | max => exact call_max2 hc
  | min => exact call_min2 hc
  | set => exact CallR.never
  | str => exact CallR.never
theorem RepKs.intKeys : ∀ {kvs : List (PV × PV)} {ks : List (Key × V)} {ns : List Int}, Cw.allInt (kvs.map (·.1)) = some ns → RepKs K F H kvs ks → ks.map (·.1) = ns.map Sum.inl
  | [], _, _, h, r => by cases h; cases r; rfl
  | (k, d) :: kvs, _, _, h, ⟨kk, v, t, e, h0, h1, h2⟩ => by
    rw [List.map_cons] at h
    cases k <;> first | (cases h; done) | skip
    rename_i i
    simp only [Cw.allInt, Option.map_eq_some_iff] at h
    obtain ⟨ms, q, rfl⟩ := h
    cases h0
    rw [e, List.map_cons, List.map_cons, RepKs.intKeys q h2]
theorem allInt_len : ∀ {ds : List PV} {ns : List Int}, Cw.allInt ds = some ns → ns.length = ds.length
  | [], _, h => by cases h; rfl
  | d :: ds, _, h => by
    cases d <;> first | (cases h; done) | skip
    simp only [Cw.allInt, Option.map_eq_some_iff] at h
    obtain ⟨ms, q, rfl⟩ := h
    rw [List.length_cons, List.length_cons, allInt_len q]
theorem Reps.ofInts : ∀ ns : List Int, Reps K F H (ns.map PV.int) (ns.map V.int)
  | [] => rfl
  | n :: ns => ⟨.int n, _, rfl, rfl, Reps.ofInts ns⟩
theorem b1_of {X : Cx} {b : Bi} {Q : VK} (r : Rel X.K F H ρ σ) (hx : RepP X.K F H d x) (h : bltV b [d] = some (fr, z)) (q : Res X.K σ ρ F H fr z Q) : rB1 X b [x] H Q := by
  unfold bltV at h
  split at h <;> first | (cases h; done) | skip
  all_goals rename_i hh; first | (cases hh; done) | skip
  all_goals try (injection hh with hh hh'; subst hh)
  · cases h
    obtain ⟨a, vs, rfl, fa, ha, ra⟩ := hx.tup
    refine .inl ⟨_, vs.length, rfl, .inr ⟨vs, .of ha, rfl⟩, ?_⟩
    rw [ra.len]; exact q.now r rfl
  · cases h
    obtain ⟨a, vs, rfl, ha, ra⟩ := hx.lst
    refine .inl ⟨_, vs.length, rfl, .inl ⟨vs, .of ha, rfl⟩, ?_⟩
    rw [ra.len]; exact q.now r rfl
  · cases h
    obtain ⟨a, rfl, ha⟩ := hx.dct
    rcases ha with ⟨_, ks, h1, h2⟩ | ⟨e, _⟩
    · refine .inr ⟨a, ks, rfl, h1, ?_⟩
      rw [h2.len]; exact q.now r rfl
    · cases e
  · split at h
    · rename_i hl
      cases h
      refine .inl ⟨_, _, rfl, ?_, q.now r rfl⟩
      rw [hx.str]
      exact ⟨by rw [strLen]; exact len16 hl, (strLen _).symm⟩
    · cases h
  · cases h; exact ⟨_, by rw [hx.int], q.now r rfl⟩
  · simp only [Option.map_eq_some_iff] at h
    obtain ⟨bs, e, h⟩ := h
    cases h
    obtain ⟨a, vs, rfl, ha, ra⟩ := hx.lst
    have := ra.allBl e
    subst this
    exact ⟨a, bs, rfl, .of ha, q.now r rfl⟩
  · simp only [Option.map_eq_some_iff] at h
    obtain ⟨bs, e, h⟩ := h
    cases h
    obtain ⟨a, vs, rfl, ha, ra⟩ := hx.lst
    have := ra.allBl e
    subst this
    exact ⟨a, bs, rfl, .of ha, q.now r rfl⟩
  · simp only [Option.map_eq_some_iff] at h
    obtain ⟨bs, e, h⟩ := h
    cases h
    obtain ⟨a, vs, rfl, ha, ra⟩ := hx.lst
    have := ra.allInt e
    subst this
    exact ⟨a, bs, rfl, .of ha, q.now r rfl⟩
  · cases h
    obtain ⟨a, vs, rfl, ha, ra⟩ := hx.lst
    exact ⟨a, vs, rfl, .inl ⟨.of ha, fun p hp => q.tup r hp ra⟩⟩
  · cases h
    obtain ⟨a, vs, rfl, fa, ha, ra⟩ := hx.tup
    exact ⟨a, vs, rfl, .inr ⟨.of ha, q.now r ⟨a, vs, rfl, ⟨fa, ha⟩, ra⟩⟩⟩
  · cases h
    obtain ⟨a, vs, rfl, ha, ra⟩ := hx.lst
    exact ⟨a, vs, rfl, .inl (.of ha), fun p hp => q.lst r hp ra⟩
  · cases h
    obtain ⟨a, vs, rfl, fa, ha, ra⟩ := hx.tup
    exact ⟨a, vs, rfl, .inr (.of ha), fun p hp => q.lst r hp ra⟩
  · cases h; exact .inl ⟨_, by rw [hx.int], q.now r rfl⟩
  · cases h; exact .inr ⟨_, by rw [hx.bl], q.now r rfl⟩
  · simp only [Option.map_eq_some_iff] at h
    obtain ⟨ns, e, h⟩ := h
    cases h
    obtain ⟨a, vs, rfl, ha, ra⟩ := hx.lst
    have := ra.allInt e
    subst this
    refine .inl ⟨a, ns, rfl, .of ha, fun ms p p1 p2 hp => ?_⟩
    rw [srt_eq p1 p2]
    exact q.lst r hp (Reps.ofInts _)
  · simp only [Option.bind_eq_some_iff] at h
    obtain ⟨ns, e, h⟩ := h
    split at h
    · rename_i hl
      cases h
      obtain ⟨a, rfl, ha⟩ := hx.dct
      rcases ha with ⟨_, ks, h1, h2⟩ | ⟨e, _⟩
      · refine .inr ⟨a, ks, ns, rfl, .inl h1, h2.intKeys e, hl, fun ms p p1 p2 hp => ?_⟩
        rw [srt_eq p1 p2]
        exact q.lst r hp (Reps.ofInts _)
      · cases e
    · cases h
  · split at h
    · rename_i hl
      cases h
      simp only [Bool.and_eq_true, decide_eq_true_eq] at hl
      obtain ⟨⟨⟨⟨h0, h1⟩, h2⟩, h3⟩, h4⟩ := hl
      have hdp := hx.dp h1
      have : ∃ a, x = .ref a := by
        cases d <;> first | (cases h0; done) | skip
        · obtain ⟨a, _, e, _⟩ := hx.tup; exact ⟨a, e⟩
        · obtain ⟨a, _, e, _⟩ := hx.lst; exact ⟨a, e⟩
      obtain ⟨a, rfl⟩ := this
      exact ⟨a, _, rfl, hdp, plain_noDict _ h1, h2, h3, len16 h4, q.now r rfl⟩
    · cases h

theorem b2_of {X : Cx} {b : Bi} {ds : List PV} {vs : List V} {Q : VK} (r : Rel X.K F H ρ σ) (hx : Reps X.K F H ds vs) (h2 : 2 ≤ ds.length) (h : bltV b ds = some (fr, z)) (q : Res X.K σ ρ F H fr z Q) : rB1 X b vs H Q := by
  unfold bltV at h
  split at h <;> first | (cases h; done) | (simp only [List.length_cons, List.length_nil] at h2; omega) | skip
  · cases h
    obtain ⟨v, w, rfl, e1, v2, w2, rfl, e2, e3⟩ := hx
    cases e3
    exact ⟨_, _, by rw [show v = _ from e1, show v2 = _ from e2], q.now r rfl⟩
  · cases h
    obtain ⟨v, w, rfl, e1, v2, w2, rfl, e2, e3⟩ := hx
    cases e3
    exact ⟨_, _, by rw [show v = _ from e1, show v2 = _ from e2], q.now r rfl⟩

/-! ### truth -/
theorem emptyLen {α β : Type} {l : List α} {m : List β} (h : l.length = m.length) : l.isEmpty = m.isEmpty := by
  cases l <;> cases m <;> simp_all
theorem truth_of {k : Bool} (hx : RepP K F H d x) (h : truth d = some k) : TruV K x H k := by
  unfold truth at h
  split at h <;> first | (cases h; done) | skip
  · cases h; rw [hx.non]; rfl
  · cases h; rw [hx.bl]; rfl
  · cases h; rw [hx.int]; rfl
  · split at h
    · rename_i hl
      cases h
      rw [hx.str]
      refine ⟨by rw [strLen]; exact len16 hl, ?_⟩
      rw [strLen, Bool.eq_iff_iff]
      simp
      try omega
    · cases h
  · cases h
    obtain ⟨a, vs, rfl, fa, ha, ra⟩ := hx.tup
    refine .inr (.inl ⟨vs, .of ha, ?_⟩)
    cases vs with
    | nil => rw [ra.nil_iff.mp rfl]; rfl
    | cons v vs =>
      rename_i xs
      have := ra.len
      cases xs <;> first | rfl | simp at this
  · cases h
    obtain ⟨a, vs, rfl, ha, ra⟩ := hx.lst
    refine .inl ⟨vs, .of ha, ?_⟩
    cases vs with
    | nil => rw [ra.nil_iff.mp rfl]; rfl
    | cons v vs =>
      rename_i xs
      have := ra.len
      cases xs <;> first | rfl | simp at this
  · split at h
    · rename_i hk
      subst hk
      cases h
      obtain ⟨a, rfl, ha⟩ := hx.dct
      rcases ha with ⟨_, ks, h1, h2⟩ | ⟨e, _⟩
      · refine .inr (.inr ⟨ks, h1, ?_⟩)
        rw [emptyLen h2.len]
      · cases e
    · cases h
end
end Cw
set_option Elab.async false
set_option linter.all false
set_option maxRecDepth 100000
set_option maxHeartbeats 4000000
set_option autoImplicit false
/-! Cw, part G: contexts, calls, expressions one by one -/
namespace Cw
open PySem L2

/-- exceptions with no context of their own -/
abbrev Takes (X : Cx) (W : WX) : Prop := L2N.Takes X W
abbrev PMk (X : Cx) (e : Expr) (t : L2.St → Hp → XK → Prop) : Prop := L2N.PMk X e t
theorem passAt {X : Cx} {W : WX} (tk : Takes X W) (τ : L2.St) : PassesAt (L2N.CX X.prog X.w) X τ (WE W τ) :=
  fun _ _ _ e t I q => tk e t (L2N.XE.of_call I (fun _ _ _ z => z) q)
/-- a def's promise, where no repr is under way -/
structure FnG (P : Program) (w : World) (K : PySem.W.Frag) (mg : Str → Option Value) (base : Heap) (k : Nat) (f : Addr) (fd : FuncData) (ps : List Str) (sp : Sp) : Prop where
  len : ∀ vs H Q E, sp vs H Q E → vs.length = ps.length
  run : ∀ (A : Around) (outer : List PySem.Env) (s : Shared) (H : Hp) (args : Args) (us : List Value) (vs : List V) (Q : VK) (E : XK), Room k A → A.guards = some [] → Env0 P w K mg base A outer s H → BindsTo s fd args (ps.zip us) → Vals vs us → sp vs H Q E →
    codeAny (model P w) A (.call (.ref f) args) (L2.CR (L2N.CX P w) outer P w H s Q E) s

/-- the promise by the evaluator -/
def spC (K : PySem.W.Frag) (EA : Nat → Addr) (np : Nat) (cf : List Slot → CR) : Sp := fun vs H Q E => ∃ (F : FS) (as : List Slot), Rel K F H as (vs.map some) ∧ as.length = np ∧ match cf as with
  | .ok fr d outs => ∀ F' H' v, Rel K F' H' outs (vs.map some) → Step F H as (vs.map some) F' H' outs (vs.map some) → RepS K F' H' H fr d v → Q v H'
  | .exc c x => ∀ F' H' cls dd, Rel K F' H' (as.map fun _ => none) (vs.map some) → Step F H as (vs.map some) F' H' (as.map fun _ => none) (vs.map some) → ExcIs EA c x cls dd → E cls dd H'
  | .bad => False

structure GX (T : Tab) (EA : Nat → Addr) (X : Cx) (N : List Str) (sc : Scope) (fb : Str → Bool) (k : Nat) (C : CallSem) : Prop where
  hN : X.N = N
  nd : N.Nodup
  hs : X.env.scope = sc
  hf : ∀ x, X.fn x = fb x
  calm : X.calm = true
  guards : X.A.guards = some []
  room : Room k X.A
  fns : ∀ (f : Nat) x, T.fns[f]? = some x → ∃ fa fd ps, X.mg x = some (.ref fa) ∧ PySem.W.keepIn X.K (.ref fa) = true ∧ Binds X.K fd ps [] ∧ (∀ as, C f as ≠ .bad → as.length = ps.length) ∧ FnG X.prog X.w X.K X.mg X.base k fa fd ps (spC X.K EA ps.length (C f))
  free : ∀ x ∈ T.free, X.mg x = none
  nums : ∀ x v, (x, v) ∈ T.nums → ∃ t, X.mg x = some (.int v t)
theorem GX.units {T : Tab} {EA : Nat → Addr} {X : Cx} {N : List Str} {sc : Scope} {fb : Str → Bool} {k : Nat} {C : CallSem} (g : GX T EA X N sc fb k C) : X.A.units + 200 < cLine := by
  have := g.room.un
  omega

section
variable {X : Cx} {EA : Nat → Addr} {W : WX} {C : CallSem} {σ : L2.St} {F F' : FS} {H H' : Hp} {ρ ρ' : Rho}
theorem PE.imp' {e : Expr} {t t' : TE} (h : PE X e t) (i : ∀ σ H Q, t' σ H Q → t σ H Q) : PE X e t' := ⟨fun pins s σ H Q I q => h.run pins s σ H Q I (i σ H Q q)⟩
theorem PT.imp' {e : Expr} {t t' : TT} (h : PT X e t) (i : ∀ σ H Q, t' σ H Q → t σ H Q) : PT X e t' := ⟨fun pins s σ H Q I q => h.run pins s σ H Q I (i σ H Q q)⟩
theorem PA.imp' {es : List Expr} {t t' : TA} (h : PA X es t) (i : ∀ σ H Q, t' σ H Q → t σ H Q) : PA X es t' := ⟨fun pos pins s σ H Q I q => h.run pos pins s σ H Q I (i σ H Q q)⟩

def Tok1 (K : PySem.W.Frag) (F : FS) (H : Hp) (σ : L2.St) : ATok → V → Prop
  | .val d, v => Rep K F H d v
  | .slot i, v => σ[i]? = some (some v)
/-- an argument -/
def tTk (K : PySem.W.Frag) (EA : Nat → Addr) (W : WX) (C : CallSem) (ie : IE) : TE := fun σ H Q => ∃ F ρ, Rel K F H ρ σ ∧ post K EA W σ F H ρ (tk ie (ev C false ie ρ) ρ) fun t F' H' _ => ∀ v, Tok1 K F' H' σ t v → Q v H'
/-- the value and the test of an expression -/
structure Snd (X : Cx) (EA : Nat → Addr) (W : WX) (C : CallSem) (e : Expr) (ie : IE) : Prop where
  v : PE X e (tRaw X.K EA W (ev C false ie))
  p : PE X e (tPk X.K EA W C ie)
  t : PT X e (tTst X.K EA W (ev C true ie))
  a : PE X e (tTk X.K EA W C ie)
/-- a plain test -/
def PlainT (e : Expr) : Prop := ∀ (env : PySem.Env) (whole : Sem Value), isTrue e env whole = (do let v ← whole; standAt e.pos; holding [v] (truthy v))
theorem tst_of {e : Expr} {raw : Rho → R (Bool × PV)} {full : Rho → R (Bool × PV)} (h1 : ∀ ρ, full ρ = tr true (raw ρ)) (hp : PE X e (tRaw X.K EA W raw)) (ht : PlainT e) : PT X e (tTst X.K EA W full) := by
  refine PT.imp' (pt_truth hp fun whole => ht X.env whole) fun σ H Q h => ?_
  obtain ⟨F, ρ, r, h⟩ := h
  rw [h1] at h
  refine ⟨F, ρ, r, (post.bind (f := fun fd ρ => R.opt ((truth fd.2).map fun b => (false, PV.bl b)) ρ) h).mono fun x F1 H1 ρ1 r1 s1 h1 v rv => ?_⟩
  obtain ⟨z, e, b, e2, q⟩ := (h1 F1 r1 s1).opt r1
  rw [Option.map_eq_some_iff] at e
  obtain ⟨k, ek, e⟩ := e
  subst e
  cases e2
  exact ⟨_, truth_of rv.p ek, q⟩
theorem pk_of {e : Expr} {ie : IE} (hv : ∀ i, ie ≠ .var i) (h : PE X e (tRaw X.K EA W (ev C false ie))) : PE X e (tPk X.K EA W C ie) := by
  refine PE.imp' h fun σ H Q h => ?_
  obtain ⟨F, ρ, r, h⟩ := h
  have e1 : ∀ r ρ, pk ie r ρ = r := fun r ρ => by unfold pk; split <;> first | rfl | exact absurd rfl (hv _)
  rw [e1] at h
  refine ⟨F, ρ, r, h.mono fun x F1 H1 ρ1 r1 s1 h1 v rv => h1 v ?_ rv.p⟩
  unfold PkR
  split
  · exact absurd rfl (hv _)
  · exact rv
theorem tk_of {e : Expr} {ie : IE} (hv : ∀ i, ie ≠ .var i) (h : PE X e (tRaw X.K EA W (ev C false ie))) : PE X e (tTk X.K EA W C ie) := by
  refine PE.imp' h fun σ H Q h => ?_
  obtain ⟨F, ρ, r, h⟩ := h
  have e1 : ∀ r ρ, tk ie r ρ = r.bind fun fd ρ1 => .ok (.val fd.2) ρ1 := fun r ρ => by unfold tk; split <;> first | rfl | exact absurd rfl (hv _)
  rw [e1] at h
  refine ⟨F, ρ, r, h.bind.mono fun x F1 H1 ρ1 r1 s1 h1 v rv => ?_⟩
  obtain ⟨G, rG, sG, rep, _⟩ := share r s1 r1 rv
  exact (h1 G rG sG).here rG v rep
theorem Snd.of {e : Expr} {ie : IE} {raw : Rho → R (Bool × PV)} (h : ∀ m ρ, ev C m ie ρ = tr m (raw ρ)) (hv : ∀ i, ie ≠ .var i) (ht : PlainT e) (hp : PE X e (tRaw X.K EA W raw)) : Snd X EA W C e ie := by
  have h0 : ev C false ie = raw := by funext ρ; rw [h]; rfl
  have hp' : PE X e (tRaw X.K EA W (ev C false ie)) := by rw [h0]; exact hp
  exact ⟨hp', pk_of hv hp', tst_of (h true) hp ht, tk_of hv hp'⟩
/-- what an operation is to lead to, from what is wanted -/
theorem post.res {K : PySem.W.Frag} {H0 : Hp} {o : Option (Bool × PV)} {Q : VK} (h : post K EA W σ F H ρ (R.opt o ρ) fun x F' H' _ => ∀ v, RepS K F' H' H0 x.1 x.2 v → Q v H') (al : ∀ a, H a = none → H0 a = none) :
    ∃ fr z, o = some (fr, z) ∧ Res K σ ρ F H fr z Q := by
  cases o with
  | none => exact h.elim
  | some x => exact ⟨x.1, x.2, rfl, fun F' H' v r' s' rv => h F' H' r' s' v (rv.back al)⟩

/-! ### constants and names -/
theorem set_at {ρ : Rho} {i : Nat} {x : Slot} {s0 : Slot} (h : ρ[i]? = some s0) : (ρ.set i x)[i]? = some x := by
  have hi : i < ρ.length := by
    rcases Nat.lt_or_ge i ρ.length with h' | h'
    · exact h'
    · rw [List.getElem?_eq_none h'] at h; cases h
  exact List.getElem?_set_self hi
theorem set_ne {ρ : Rho} {i j : Nat} {x : Slot} (h : i ≠ j) : (ρ.set i x)[j]? = ρ[j]? := List.getElem?_set_ne h
/-- an own object becomes shared -/
theorem Rel.freeze {K : PySem.W.Frag} (r : Rel K F H ρ σ) {i : Nat} {s : Stt} {d : PV} (h : ρ[i]? = some (some (s, d))) (m : s.mut = true) :
    ∃ a, σ[i]? = some (some (.ref a)) ∧ Rel K (addF F a) H (ρ.set i (some (s.frz, d))) σ ∧ EStep F H ρ σ (addF F a) H (ρ.set i (some (s.frz, d))) ∧ Rep K (addF F a) H d (.ref a) := by
  obtain ⟨a, h1, h2⟩ := r.ow i s d h m
  have fm : s.frz.mut = false ∧ s.frz.shr = true ∧ (s.frz.pin = true → s.pin = true ∧ s.frz = .frp) := by cases s <;> first | (cases m; done) | exact ⟨rfl, rfl, fun z => by first | (cases z; done) | exact ⟨rfl, rfl⟩⟩
  have hF : ∀ b, F b → addF F a b := fun _ => .inl
  have hself := set_at (x := some (s.frz, d)) h
  refine ⟨a, h1, ⟨by rw [List.length_set]; exact r.len, fun b f => ?_, fun j t e hj hm => ?_, fun j t e hj hm => ?_, fun j k t e t' e' b hj hm hk hm' hv hv' => ?_⟩, ⟨⟨fun b o hb _ => hb, fun _ z => z, hF, fun b f => ?_, fun b o => ?_, fun j t e hj hp => ?_⟩, fun j t e hj hm => ?_⟩, h2.freeze⟩
  · rcases f with f | f
    · exact r.ft b f
    · obtain ⟨o, q⟩ := h2.live
      rw [f, q]; simp
  · by_cases c : i = j
    · subst c
      rw [hself] at hj
      cases hj
      exact ⟨_, h1, h2.freeze⟩
    · rw [set_ne c] at hj
      obtain ⟨v, q1, q2⟩ := r.rd j t e hj hm
      exact ⟨v, q1, q2.keep hF fun _ _ _ z => z⟩
  · by_cases c : i = j
    · subst c
      rw [hself] at hj
      cases hj
      rw [fm.1] at hm; cases hm
    · rw [set_ne c] at hj
      obtain ⟨b, q1, q2⟩ := r.ow j t e hj hm
      refine ⟨b, q1, q2.keep hF (fun _ _ _ z => z) ?_ rfl⟩
      rintro (f | f)
      · exact q2.1 f
      · subst f
        exact c (r.ap i j _ _ _ _ b h m hj hm h1 q1)
  · have cj : i ≠ j := fun c => by subst c; rw [hself] at hj; cases hj; rw [fm.1] at hm; cases hm
    have ck : i ≠ k := fun c => by subst c; rw [hself] at hk; cases hk; rw [fm.1] at hm'; cases hm'
    rw [set_ne cj] at hj
    rw [set_ne ck] at hk
    exact r.ap j k _ _ _ _ b hj hm hk hm' hv hv'
  · rcases f with f | f
    · exact .inl f
    · exact .inr (.inr ⟨i, s, d, h, m, by rw [f]; exact h1⟩)
  · obtain ⟨j, t, e, hj, hm, hv⟩ := o
    have cj : i ≠ j := fun c => by subst c; rw [hself] at hj; cases hj; rw [fm.1] at hm; cases hm
    rw [set_ne cj] at hj
    exact .inl ⟨j, t, e, hj, hm, hv⟩
  · by_cases c : i = j
    · subst c
      rw [hself] at hj
      cases hj
      obtain ⟨p1, p2⟩ := fm.2.2 hp
      exact ⟨rfl, s, d, h, p1, .inr p2⟩
    · rw [set_ne c] at hj
      exact ⟨rfl, t, e, hj, hp, .inl rfl⟩
  · have cj : i ≠ j := fun c => by subst c; rw [hself] at hj; cases hj; rw [fm.1] at hm; cases hm
    rw [set_ne cj] at hj
    exact ⟨e, hj⟩
theorem slot_val {K : PySem.W.Frag} (r : Rel K F H ρ σ) {i : Nat} {s : Stt} {d : PV} (h : ρ[i]? = some (some (s, d))) (hne : s = .lnt → False) : ∃ v, σ[i]? = some (some v) := by
  cases m : s.mut with
  | true => obtain ⟨a, e1, _⟩ := r.ow i s d h m; exact ⟨_, e1⟩
  | false =>
    have hsh : s.shr = true := by cases s <;> first | rfl | (cases m; done) | exact absurd rfl hne
    obtain ⟨v, e1, _⟩ := r.rd i s d h hsh; exact ⟨_, e1⟩
theorem snd_cst {e : Expr} {d : PV} {u : V} (he : PE X e (tC u)) (hd : ∀ K F H, Rep K F H d u) (ht : PlainT e) : Snd X EA W C e (.cst d) := by
  refine Snd.of (raw := fun ρ => .ok (false, d) ρ) (fun m ρ => by cases m <;> rfl) (fun i z => nomatch z) ht (PE.imp' he fun σ H Q h => ?_)
  obtain ⟨F, ρ, r, h⟩ := h
  exact h.here r u (hd _ _ _)
theorem snd_var {x : Str} {i : Nat} {pos : Pos} (hN : X.N[i]? = some x) (hv : Vis X.env.scope x) (hd : (x == ("__debug__" : Str)) = false) (hcd : (x == ("__classdict__" : Str)) = false) : Snd X EA W C (.Name x pos) (.var i) := by
  have base := pe_var (X := X) (pos := pos) hN hv hd hcd
  refine ⟨PE.imp' base fun σ H Q h => ?_, PE.imp' base fun σ H Q h => ?_, ?_, PE.imp' base fun σ H Q h => ?_⟩
  · obtain ⟨F, ρ, r, h⟩ := h
    simp only [ev, Bool.false_eq_true, if_false, getV] at h
    split at h
    · rename_i d e
      obtain ⟨v, e1, e2⟩ := r.rd i _ _ e rfl
      exact ⟨v, e1, h.here r v e2⟩
    · rename_i d e
      obtain ⟨v, e1, e2⟩ := r.rd i _ _ e rfl
      exact ⟨v, e1, h.here r v e2⟩
    · rename_i d e
      obtain ⟨a, e1, r1, s1, rp⟩ := r.freeze e rfl
      exact ⟨_, e1, h _ _ r1 s1 _ rp⟩
    · rename_i d e
      obtain ⟨a, e1, r1, s1, rp⟩ := r.freeze e rfl
      exact ⟨_, e1, h _ _ r1 s1 _ rp⟩
    · exact h.elim
  · obtain ⟨F, ρ, r, h⟩ := h
    simp only [pk, peekV] at h
    split at h
    · exact h.elim
    · rename_i s d hne e
      obtain ⟨v, e1⟩ := slot_val r e hne
      exact ⟨v, e1, h.here r v e1 (r.seen e hne e1)⟩
    · exact h.elim
  · refine PT.imp' (pt_truth base fun whole => rfl) fun σ H Q h => ?_
    obtain ⟨F, ρ, r, h⟩ := h
    simp only [ev, if_true, tr, peekV] at h
    split at h
    · exact h.elim
    · rename_i s d hne e
      obtain ⟨v, e1⟩ := slot_val r e hne
      refine ⟨v, e1, ?_⟩
      obtain ⟨z, e, b, e2, q⟩ := post.opt h r
      rw [Option.map_eq_some_iff] at e
      obtain ⟨k, ek, e⟩ := e
      subst e
      cases e2
      exact ⟨_, truth_of (r.seen ‹_› hne e1) ek, q⟩
    · exact h.elim
  · obtain ⟨F, ρ, r, h⟩ := h
    simp only [tk] at h
    split at h
    · exact h.elim
    · rename_i s d hne e
      obtain ⟨v, e1⟩ := slot_val r e hne
      refine ⟨v, e1, h.here r v ?_⟩
      cases m : s.mut with
      | true => exact e1
      | false =>
        have hsh : s.shr = true := by cases s <;> first | rfl | (cases m; done) | exact absurd rfl hne
        obtain ⟨w, e2, e3⟩ := r.rd i s d e hsh
        rw [e1] at e2
        cases e2
        exact e3
    · exact h.elim
/-- an argument that is a name -/
theorem plainT_name {x : Str} {pos : Pos} : PlainT (.Name x pos) := fun _ _ => rfl
end
end Cw
set_option Elab.async false
set_option linter.all false
set_option maxRecDepth 100000
set_option maxHeartbeats 4000000
set_option autoImplicit false
/-! Cw, part H: operators, comparisons, subscripts, displays, built-ins -/
namespace Cw
open PySem L2

section
variable {X : Cx} {EA : Nat → Addr} {W : WX} {C : CallSem} {σ : L2.St} {F F' : FS} {H H' : Hp} {ρ ρ' : Rho} {a b c : Expr} {ia ib ic : IE} {pos : Pos}

/-- from a test of a value to its reading -/
theorem tst_raw {raw full : Rho → R (Bool × PV)} (h1 : ∀ ρ, full ρ = tr true (raw ρ)) {Q : Bool → Hp → Prop} (h : tTst X.K EA W full σ H Q) : tRaw X.K EA W raw σ H (fun v H' => ∃ k, TruV X.K v H' k ∧ Q k H') := by
  obtain ⟨F, ρ, r, h⟩ := h
  rw [h1] at h
  refine ⟨F, ρ, r, (post.bind (f := fun fd ρ => R.opt ((truth fd.2).map fun b => (false, PV.bl b)) ρ) h).mono fun x F1 H1 ρ1 r1 s1 h1 v rv => ?_⟩
  obtain ⟨z, e, b, e2, q⟩ := (h1 F1 r1 s1).opt r1
  rw [Option.map_eq_some_iff] at e
  obtain ⟨k, ek, e⟩ := e
  subst e
  cases e2
  exact ⟨_, truth_of rv.p ek, q⟩
def Boolish (raw : Rho → R (Bool × PV)) : Prop := ∀ ρ x ρ', raw ρ = .ok x ρ' → ∃ c, x = (false, .bl c)
theorem tst_bl {raw full : Rho → R (Bool × PV)} (hb : Boolish raw) (h1 : ∀ ρ, full ρ = tr true (raw ρ)) {Q : Bool → Hp → Prop} (h : tTst X.K EA W full σ H Q) : tRaw X.K EA W raw σ H (fun v H' => ∃ k, v = .bl k ∧ Q k H') := by
  obtain ⟨F, ρ, r, h⟩ := tst_raw h1 h
  refine ⟨F, ρ, r, ?_⟩
  have hb := hb ρ
  cases e : raw ρ with
  | ok x ρ1 =>
    rw [e] at h
    obtain ⟨c, rfl⟩ := hb x ρ1 e
    intro F1 H1 r1 s1 v rv
    have ev : v = .bl c := rv
    subst ev
    obtain ⟨k, hk, q⟩ := h F1 H1 r1 s1 _ rv
    exact ⟨k, by rw [show k = c from hk], q⟩
  | exc _ _ _ => rw [e] at h; exact h
  | bad => rw [e] at h; exact h
theorem opt_bool {o : Option Bool} {ρ : Rho} {x : Bool × PV} {ρ' : Rho} (h : R.opt (o.map fun c => (false, PV.bl c)) ρ = .ok x ρ') : ∃ c, x = (false, .bl c) := by
  cases o with
  | none => cases h
  | some c => cases h; exact ⟨c, rfl⟩
theorem bind_inv {α β : Type} {r : R α} {f : α → Rho → R β} {x : β} {ρ' : Rho} (h : r.bind f = .ok x ρ') : ∃ a ρ1, r = .ok a ρ1 ∧ f a ρ1 = .ok x ρ' := by
  cases r with
  | ok a ρ1 => exact ⟨a, ρ1, rfl, h⟩
  | exc _ _ _ => cases h
  | bad => cases h

/-- two operands that are looked at -/
def raw2 (C : CallSem) (ia ib : IE) (f : PV → PV → Option (Bool × PV)) (ρ : Rho) : R (Bool × PV) := (pk ia (ev C false ia ρ) ρ).bind fun x ρ1 => (pk ib (ev C false ib ρ1) ρ1).bind fun y ρ2 => match rpk ia x.2 ρ2 with
  | some x' => R.opt (f x' y.2) ρ2
  | none => .bad
theorem red2 {f : PV → PV → Option (Bool × PV)} {rr : R2}
    (hop : ∀ {F : FS} {H : Hp} {ρ : Rho} {σ : L2.St} {d e z : PV} {x y : V} {fr : Bool} {Q : VK}, Rel X.K F H ρ σ → RepP X.K F H d x → RepP X.K F H e y → f d e = some (fr, z) → Res X.K σ ρ F H fr z Q → rr x y H Q)
    {Q : VK} (h : tRaw X.K EA W (raw2 C ia ib f) σ H Q) : tOp rr (tPk X.K EA W C ia) (tPk X.K EA W C ib) σ H Q := by
  obtain ⟨F, ρ, r, h⟩ := h
  refine ⟨F, ρ, r, h.bind.mono fun x F1 H1 ρ1 r1 s1 h1 v1 pk1 p1 => ?_⟩
  refine ⟨F1, ρ1, r1, (h1 F1 r1 s1).bind.mono fun y F2 H2 ρ2 r2 s2 h2 v2 pk2 p2 => ?_⟩
  have h2 := h2 F2 r2 s2
  cases e : rpk ia x.2 ρ2 with
  | none => rw [e] at h2; exact h2.elim
  | some d =>
    rw [e] at h2
    obtain ⟨fr, z, ez, q⟩ := post.res h2 fun a n => s1.1.al a (s2.1.al a n)
    exact hop r2 (pk1.later r s1 r1 s2 r2 e) p2 ez q
theorem snd_bin {op : BOp} (ha : Snd X EA W C a ia) (hb : Snd X EA W C b ib) : Snd X EA W C (.BinOp a (astB op) b pos) (.bin op ia ib) := by
  obtain ⟨rr, ho, hop⟩ := bin_of (X := X) op
  exact Snd.of (raw := raw2 C ia ib (binV op)) (fun m ρ => rfl) (fun _ z => nomatch z) (fun _ _ => rfl) (PE.imp' (pe_op ho ha.p hb.p) fun σ H Q h => red2 (fun r hx hy h q => hop r hx hy h q) h)
theorem raw2_bool {f : PV → PV → Option Bool} : Boolish (raw2 C ia ib fun x y => (f x y).map fun c => (false, PV.bl c)) := fun ρ x ρ' h => by
  obtain ⟨a1, ρ1, _, h⟩ := bind_inv h
  obtain ⟨a2, ρ2, _, h⟩ := bind_inv h
  split at h
  · exact opt_bool h
  · cases h
theorem snd_cmp {op : COp} (hu : X.A.units + 65 < cLine) (ha : Snd X EA W C a ia) (hb : Snd X EA W C b ib) (hm : behindInMarks (astC op) b = false) : Snd X EA W C (.Compare a [astC op] [b] pos) (.cmp op ia ib) := by
  obtain ⟨rr, ho, hop⟩ := cmp_of hu op
  have hop' : ∀ {F : FS} {H : Hp} {ρ : Rho} {σ : L2.St} {d e z : PV} {x y : V} {fr : Bool} {Q : VK}, Rel X.K F H ρ σ → RepP X.K F H d x → RepP X.K F H e y → (cmpV op d e).map (fun c => (false, PV.bl c)) = some (fr, z) → Res X.K σ ρ F H fr z Q → rr x y H Q := by
    intro F H ρ σ d e z x y fr Q r hx hy h q
    rw [Option.map_eq_some_iff] at h
    obtain ⟨c, e1, e2⟩ := h
    cases e2
    exact hop r hx hy e1 q
  have red : ∀ σ H Q, tRaw X.K EA W (raw2 C ia ib fun x y => (cmpV op x y).map fun c => (false, PV.bl c)) σ H Q → tOp rr (tPk X.K EA W C ia) (tPk X.K EA W C ib) σ H Q := fun σ H Q h => red2 (fun r hx hy h q => hop' r hx hy h q) h
  have hp : PE X (.Compare a [astC op] [b] pos) (tRaw X.K EA W (ev C false (.cmp op ia ib))) := PE.imp' (pe_cmpR ho ha.p hb.p hm) red
  exact ⟨hp, pk_of (fun _ z => nomatch z) hp, PT.imp' (pt_cmpR ho ha.p hb.p hm) (fun σ H Q h => red σ H _ (tst_bl raw2_bool (fun _ => rfl) h)), tk_of (fun _ z => nomatch z) hp⟩

/-! ### a chain of int comparisons -/
theorem lt_like {X : Cx} {op : COp} (hu : X.A.units + 65 < cLine) : ∃ rr : R2, OpR X (compareOp (astC op)) rr ∧ ∀ {i j : Int} {k : Bool} {H : Hp} {Q : VK}, cmpV op (.int i) (.int j) = some k → Q (.bl k) H → rr (.int i) (.int j) H Q := by
  cases op with
  | lt => exact ⟨_, op_lt, fun h q => ⟨_, _, rfl, rfl, by cases h; exact q⟩⟩
  | le => exact ⟨_, op_le, fun h q => ⟨_, _, rfl, rfl, by cases h; exact q⟩⟩
  | gt => exact ⟨_, op_gt, fun h q => ⟨_, _, rfl, rfl, by cases h; exact q⟩⟩
  | ge => exact ⟨_, op_ge, fun h q => ⟨_, _, rfl, rfl, by cases h; exact q⟩⟩
  | eq => exact ⟨_, op_eq, fun h q => ⟨rfl, by rw [dec_int]; cases h; exact q⟩⟩
  | ne => exact ⟨_, op_ne, fun h q => ⟨rfl, by rw [dec_int]; cases h; exact q⟩⟩
  | isin => exact ⟨fun _ _ _ _ => False, fun _ _ _ _ _ _ _ _ _ _ _ _ z => z.elim, fun h _ => nomatch h⟩
  | notin => exact ⟨fun _ _ _ _ => False, fun _ _ _ _ _ _ _ _ _ _ _ _ z => z.elim, fun h _ => nomatch h⟩
def rawCh (C : CallSem) (op1 op2 : COp) (a b c : IE) (ρ : Rho) : R (Bool × PV) := (ev C false a ρ).bind fun x ρ1 => (ev C false b ρ1).bind fun y ρ2 => match x.2, y.2 with
  | .int i, .int j => (match cmpV op1 (.int i) (.int j) with
    | some true => (ev C false c ρ2).bind fun z ρ3 => (match z.2 with | .int k => R.opt ((cmpV op2 (.int j) (.int k)).map fun c => (false, .bl c)) ρ3 | _ => .bad)
    | some false => .ok (false, .bl false) ρ2
    | none => .bad)
  | _, _ => .bad
theorem rawCh_bool {op1 op2 : COp} : Boolish (rawCh C op1 op2 ia ib ic) := fun ρ x ρ' h => by
  obtain ⟨a1, ρ1, _, h⟩ := bind_inv h
  obtain ⟨a2, ρ2, _, h⟩ := bind_inv h
  split at h
  · split at h
    · obtain ⟨a3, ρ3, _, h⟩ := bind_inv h
      split at h
      · exact opt_bool h
      · cases h
    · cases h; exact ⟨_, rfl⟩
    · cases h
  · cases h
theorem RepS.int {K : PySem.W.Frag} {H0 : Hp} {fr : Bool} {i : Int} {v : V} (h : RepS K F H H0 fr (.int i) v) : v = .int i := h.p.int
theorem redCh {op1 op2 : COp} {r1 r2 : R2} (h1 : ∀ {i j : Int} {k : Bool} {H : Hp} {Q : VK}, cmpV op1 (.int i) (.int j) = some k → Q (.bl k) H → r1 (.int i) (.int j) H Q)
    (h2 : ∀ {i j : Int} {k : Bool} {H : Hp} {Q : VK}, cmpV op2 (.int i) (.int j) = some k → Q (.bl k) H → r2 (.int i) (.int j) H Q) {Q : VK} (h : tRaw X.K EA W (rawCh C op1 op2 ia ib ic) σ H Q) :
    tChain r1 r2 (tRaw X.K EA W (ev C false ia)) (tRaw X.K EA W (ev C false ib)) (tRaw X.K EA W (ev C false ic)) σ H Q := by
  obtain ⟨F, ρ, r, h⟩ := h
  refine ⟨F, ρ, r, h.bind.mono fun x F1 H1 ρ1 g1 s1 h3 v1 p1 => ?_⟩
  refine ⟨F1, ρ1, g1, (h3 F1 g1 s1).bind.mono fun y F2 H2 ρ2 g2 s2 h4 v2 p2 => ?_⟩
  obtain ⟨f1, x⟩ := x
  obtain ⟨f2, y⟩ := y
  replace h4 := h4 F2 g2 s2
  split at h4
  · rename_i i j e1 e2
    simp only at e1 e2
    subst e1 e2
    rw [p1.int, p2.int]
    split at h4
    · rename_i ek
      refine h1 ek ⟨true, rfl, ?_⟩
      rw [if_pos rfl]
      refine ⟨F2, ρ2, g2, h4.bind.mono fun z F3 H3 ρ3 g3 s3 h5 v3 p3 => ?_⟩
      obtain ⟨f3, z⟩ := z
      replace h5 := h5 F3 g3 s3
      split at h5
      · rename_i k e3
        simp only at e3
        subst e3
        obtain ⟨w, ew, q⟩ := h5.opt g3
        rw [Option.map_eq_some_iff] at ew
        obtain ⟨cc, e5, e6⟩ := ew
        subst e6
        rw [p3.int]
        exact h2 e5 (q _ rfl)
      · exact h5.elim
    · rename_i ek
      refine h1 ek ⟨false, rfl, ?_⟩
      rw [if_neg Bool.false_ne_true]
      exact h4.here g2 _ rfl
    · exact h4.elim
  · exact h4.elim
theorem snd_chain {op1 op2 : COp} (hu : X.A.units + 65 < cLine) (ha : Snd X EA W C a ia) (hb : Snd X EA W C b ib) (hc : Snd X EA W C c ic) (hm : lastMarks [astC op1, astC op2] [b, c] = false) :
    Snd X EA W C (.Compare a [astC op1, astC op2] [b, c] pos) (.chain op1 op2 ia ib ic) := by
  obtain ⟨r1, o1, h1⟩ := lt_like (op := op1) hu
  obtain ⟨r2, o2, h2⟩ := lt_like (op := op2) hu
  have red : ∀ σ H Q, tRaw X.K EA W (rawCh C op1 op2 ia ib ic) σ H Q → tChain r1 r2 (tRaw X.K EA W (ev C false ia)) (tRaw X.K EA W (ev C false ib)) (tRaw X.K EA W (ev C false ic)) σ H Q := fun σ H Q h => redCh (fun e q => h1 e q) (fun e q => h2 e q) h
  have hp : PE X (.Compare a [astC op1, astC op2] [b, c] pos) (tRaw X.K EA W (ev C false (.chain op1 op2 ia ib ic))) := PE.imp' (pe_chain o1 o2 ha.v hb.v hc.v hm) red
  exact ⟨hp, pk_of (fun _ z => nomatch z) hp, PT.imp' (pt_chain o1 o2 ha.v hb.v hc.v hm) (fun σ H Q h => red σ H _ (tst_bl rawCh_bool (fun _ => rfl) h)), tk_of (fun _ z => nomatch z) hp⟩

/-! ### and, or, not, if else -/
structure SndB (X : Cx) (EA : Nat → Addr) (W : WX) (C : CallSem) (op : BoolOp) (es : List Expr) (pos : Pos) (ie : IE) : Prop where
  v : PE X (.BoolOp op es pos) (tRaw X.K EA W (ev C false ie))
  w : PW X (.BoolOp op es pos) (tTst X.K EA W (ev C true ie))
theorem SndB.snd {op : BoolOp} {es : List Expr} {ie : IE} (h : SndB X EA W C op es pos ie) (hv : ∀ i, ie ≠ .var i) : Snd X EA W C (.BoolOp op es pos) ie := ⟨h.v, pk_of hv h.v, h.w.pt, tk_of hv h.v⟩
theorem PW.imp' {e : Expr} {t t' : TT} (h : PW X e t) (i : ∀ σ H Q, t' σ H Q → t σ H Q) : PW X e t' := ⟨fun wh pins s σ H Q I q => h.run wh pins s σ H Q I (i σ H Q q)⟩
theorem sndB_one {op : BoolOp} (ha : Snd X EA W C a ia) : SndB X EA W C op [a] pos ia := ⟨pe_one ha.v, by cases op with | And => exact pw_and1 ha.t | Or => exact pw_or1 ha.t⟩
theorem RepS.bl {K : PySem.W.Frag} {H0 : Hp} {fr : Bool} {i : Bool} {v : V} (h : RepS K F H H0 fr (.bl i) v) : v = .bl i := h.p.bl
/-- what is behind a truth value -/
theorem post.asB {K : PySem.W.Frag} {x : Bool × PV} {f : Bool → R (Bool × PV)} {φ : (Bool × PV) → FS → Hp → Rho → Prop} (h : post K EA W σ F H ρ (Cw.asB x ρ f) φ) : ∃ c, x.2 = .bl c ∧ post K EA W σ F H ρ (f c) φ := by
  unfold Cw.asB at h
  split at h
  · rename_i c e; exact ⟨c, e, h⟩
  · exact h.elim
theorem sndB_and {rest : List Expr} (ha : Snd X EA W C a ia) (hb : SndB X EA W C .And (b :: rest) pos ib) : SndB X EA W C .And (a :: b :: rest) pos (.and ia ib) := by
  refine ⟨PE.imp' (pe_and ha.v hb.v) fun σ H Q h => ?_, PW.imp' (pw_and ha.t hb.w) fun σ H Q h => ?_⟩
  · obtain ⟨F, ρ, r, h⟩ := h
    refine ⟨F, ρ, r, (post.bind (f := fun x ρ1 => asB x ρ1 fun c => if c then ev C false ib ρ1 else .ok (false, .bl false) ρ1) h).mono fun x F1 H1 ρ1 g1 s1 h3 v1 p1 => ?_⟩
    obtain ⟨f1, x⟩ := x
    obtain ⟨c, e, h4⟩ := (h3 F1 g1 s1).asB
    simp only at e
    subst e
    refine ⟨c, p1.bl, ?_⟩
    cases c with
    | true =>
      rw [if_pos rfl] at h4 ⊢
      exact ⟨F1, ρ1, g1, h4.mono fun y F2 H2 ρ2 g2 s2 q v rv => q v (rv.back s1.1.al)⟩
    | false =>
      rw [if_neg Bool.false_ne_true] at h4 ⊢
      exact h4.here g1 _ rfl
  · obtain ⟨F, ρ, r, h⟩ := h
    refine ⟨F, ρ, r, (post.bind (f := fun x ρ1 => asB x ρ1 fun c => if c then ev C true ib ρ1 else .ok (false, .bl false) ρ1) h).mono fun x F1 H1 ρ1 g1 s1 h3 => ?_⟩
    obtain ⟨c, e, h4⟩ := (h3 F1 g1 s1).asB
    refine ⟨c, e, ?_⟩
    cases c with
    | true =>
      rw [if_pos rfl] at h4 ⊢
      exact ⟨F1, ρ1, g1, h4⟩
    | false =>
      rw [if_neg Bool.false_ne_true] at h4 ⊢
      obtain ⟨b, e2, q⟩ := h4.here g1
      cases e2
      exact q
theorem sndB_or {rest : List Expr} (ha : Snd X EA W C a ia) (hb : SndB X EA W C .Or (b :: rest) pos ib) : SndB X EA W C .Or (a :: b :: rest) pos (.or ia ib) := by
  refine ⟨PE.imp' (pe_or ha.v hb.v) fun σ H Q h => ?_, PW.imp' (pw_or ha.t hb.w) fun σ H Q h => ?_⟩
  · obtain ⟨F, ρ, r, h⟩ := h
    refine ⟨F, ρ, r, (post.bind (f := fun x ρ1 => asB x ρ1 fun c => if c then .ok (false, .bl true) ρ1 else ev C false ib ρ1) h).mono fun x F1 H1 ρ1 g1 s1 h3 v1 p1 => ?_⟩
    obtain ⟨f1, x⟩ := x
    obtain ⟨c, e, h4⟩ := (h3 F1 g1 s1).asB
    simp only at e
    subst e
    refine ⟨c, p1.bl, ?_⟩
    cases c with
    | false =>
      rw [if_neg Bool.false_ne_true] at h4 ⊢
      exact ⟨F1, ρ1, g1, h4.mono fun y F2 H2 ρ2 g2 s2 q v rv => q v (rv.back s1.1.al)⟩
    | true =>
      rw [if_pos rfl] at h4 ⊢
      exact h4.here g1 _ rfl
  · obtain ⟨F, ρ, r, h⟩ := h
    refine ⟨F, ρ, r, (post.bind (f := fun x ρ1 => asB x ρ1 fun c => if c then .ok (false, .bl true) ρ1 else ev C true ib ρ1) h).mono fun x F1 H1 ρ1 g1 s1 h3 => ?_⟩
    obtain ⟨c, e, h4⟩ := (h3 F1 g1 s1).asB
    refine ⟨c, e, ?_⟩
    cases c with
    | false =>
      rw [if_neg Bool.false_ne_true] at h4 ⊢
      exact ⟨F1, ρ1, g1, h4⟩
    | true =>
      rw [if_pos rfl] at h4 ⊢
      obtain ⟨b, e2, q⟩ := h4.here g1
      cases e2
      exact q
theorem snd_not (ha : Snd X EA W C a ia) : Snd X EA W C (.UnaryOp .Not a pos) (.not ia) := by
  have hp : PE X (.UnaryOp .Not a pos) (tRaw X.K EA W (ev C false (.not ia))) := by
    refine PE.imp' (pe_notT ha.p) fun σ H Q h => ?_
    obtain ⟨F, ρ, r, h⟩ := h
    refine ⟨F, ρ, r, (post.bind (f := fun x ρ1 => R.opt ((truth x.2).map fun c => (false, PV.bl (!c))) ρ1) h).mono fun x F1 H1 ρ1 g1 s1 h3 v1 pk1 p1 => ?_⟩
    obtain ⟨z, e, q⟩ := (h3 F1 g1 s1).opt g1
    rw [Option.map_eq_some_iff] at e
    obtain ⟨k, ek, e⟩ := e
    subst e
    exact ⟨k, truth_of p1 ek, q _ rfl⟩
  refine ⟨hp, pk_of (fun _ z => nomatch z) hp, PT.imp' (pt_not ha.t) fun σ H Q h => ?_, tk_of (fun _ z => nomatch z) hp⟩
  obtain ⟨F, ρ, r, h⟩ := h
  refine ⟨F, ρ, r, (post.bind (f := fun x ρ1 => asB x ρ1 fun c => .ok (false, PV.bl (!c)) ρ1) h).mono fun x F1 H1 ρ1 g1 s1 h3 => ?_⟩
  obtain ⟨c, e, h3⟩ := (h3 F1 g1 s1).asB
  obtain ⟨b, e2, q⟩ := h3.here g1
  cases e2
  exact ⟨c, e, q⟩
theorem snd_isN {neg : Bool} {j : Nat} {p2 : Pos} (ha : Snd X EA W C a ia) : Snd X EA W C (.Compare a [if neg then .IsNot else .Is] [.Constant .none j p2] pos) (.isN neg ia) := by
  have bl : Boolish (fun ρ => (pk ia (ev C false ia ρ) ρ).bind fun x ρ1 => .ok (false, .bl (if neg then !isNon x.2 else isNon x.2)) ρ1) := fun ρ x ρ' h => by
    obtain ⟨a1, ρ1, _, h⟩ := bind_inv h
    cases h
    exact ⟨_, rfl⟩
  have key : ∀ {d : PV} {v : V} {K : PySem.W.Frag} {F : FS} {H : Hp}, RepP K F H d v → decide (v = .non) = isNon d := fun {d v K F H} h => by
    cases d with
    | non => rw [h.non]; rfl
    | bl _ => rw [h.bl]; rfl
    | int _ => rw [h.int]; rfl
    | str _ => rw [h.str]; rfl
    | tup _ => obtain ⟨_, _, e, _⟩ := h.tup; rw [e]; rfl
    | lst _ => obtain ⟨_, _, e, _⟩ := h.lst; rw [e]; rfl
    | dct _ _ => obtain ⟨_, e, _⟩ := h.dct; rw [e]; rfl
    | set _ => exact h.set.elim
    | scr _ => obtain ⟨_, e, _⟩ := h.scr; rw [e]; rfl
  have red : ∀ σ H Q, tRaw X.K EA W (fun ρ => (pk ia (ev C false ia ρ) ρ).bind fun x ρ1 => .ok (false, .bl (if neg then !isNon x.2 else isNon x.2)) ρ1) σ H Q →
      tPk X.K EA W C ia σ H fun x H1 => Q (.bl (if neg then !decide (x = .non) else decide (x = .non))) H1 := fun σ H Q h => by
    obtain ⟨F, ρ, r, h⟩ := h
    refine ⟨F, ρ, r, h.bind.mono fun x F1 H1 ρ1 g1 s1 h3 v1 pk1 p1 => ?_⟩
    have q := (h3 F1 g1 s1).here g1 (.bl _) rfl
    show Q (V.bl (if neg = true then !decide (v1 = V.non) else decide (v1 = V.non))) H1
    rw [key p1]
    exact q
  cases neg with
  | false =>
    have hp : PE X (.Compare a [.Is] [.Constant .none j p2] pos) (tRaw X.K EA W (ev C false (.isN false ia))) := PE.imp' (pe_cmp (pc_isN ha.p) rfl) red
    exact ⟨hp, pk_of (fun _ z => nomatch z) hp, PT.imp' (pt_cmp (pc_isN ha.p) rfl) (fun σ H Q h => red σ H _ (tst_bl bl (fun _ => rfl) h)), tk_of (fun _ z => nomatch z) hp⟩
  | true =>
    have hp : PE X (.Compare a [.IsNot] [.Constant .none j p2] pos) (tRaw X.K EA W (ev C false (.isN true ia))) := PE.imp' (pe_cmp (pc_notN ha.p) rfl) red
    exact ⟨hp, pk_of (fun _ z => nomatch z) hp, PT.imp' (pt_cmp (pc_notN ha.p) rfl) (fun σ H Q h => red σ H _ (tst_bl bl (fun _ => rfl) h)), tk_of (fun _ z => nomatch z) hp⟩
theorem ite_v (hc : Snd X EA W C c ic) (ha : Snd X EA W C a ia) (hb : Snd X EA W C b ib) : PE X (.IfExp c a b pos) (tRaw X.K EA W (ev C false (.ite ic ia ib))) := by
  refine PE.imp' (pe_ifExp hc.t ha.v hb.v) fun σ H Q h => ?_
  obtain ⟨F, ρ, r, h⟩ := h
  refine ⟨F, ρ, r, (post.bind (f := fun x ρ1 => asB x ρ1 fun k => if k then ev C false ia ρ1 else ev C false ib ρ1) h).mono fun x F1 H1 ρ1 g1 s1 h3 => ?_⟩
  obtain ⟨k, e, h4⟩ := (h3 F1 g1 s1).asB
  refine ⟨k, e, ?_⟩
  cases k with
  | true =>
    rw [if_pos rfl] at h4 ⊢
    exact ⟨F1, ρ1, g1, h4.mono fun y F2 H2 ρ2 g2 s2 q v rv => q v (rv.back s1.1.al)⟩
  | false =>
    rw [if_neg Bool.false_ne_true] at h4 ⊢
    exact ⟨F1, ρ1, g1, h4.mono fun y F2 H2 ρ2 g2 s2 q v rv => q v (rv.back s1.1.al)⟩
theorem pt_ifExp {tc ta tb : TT} (hc : PT X c tc) (ha : PT X a ta) (hb : PT X b tb) : PT X (.IfExp c a b pos) (fun σ H Q => tc σ H fun k H1 => if k = true then ta σ H1 Q else tb σ H1 Q) := by
  refine ⟨fun pins s σ H Q I h => ?_⟩
  show wpAny _ _ (do if ← isTrue c X.env (eval c X.env) then isTrue a X.env (eval a X.env) else isTrue b X.env (eval b X.env)) _ _ _
  refine wpAny_bind (thn (hc.run pins s σ H _ I h) fun d s1 ⟨H1, I1, q1⟩ => ?_)
  cases d with
  | true => exact ha.run pins s1 σ H1 Q I1 q1
  | false => exact hb.run pins s1 σ H1 Q I1 q1
theorem snd_ite (hc : Snd X EA W C c ic) (ha : Snd X EA W C a ia) (hb : Snd X EA W C b ib) : Snd X EA W C (.IfExp c a b pos) (.ite ic ia ib) := by
  have hp : PE X (.IfExp c a b pos) (tRaw X.K EA W (ev C false (.ite ic ia ib))) := ite_v hc ha hb
  refine ⟨hp, pk_of (fun _ z => nomatch z) hp, PT.imp' (pt_ifExp hc.t ha.t hb.t) fun σ H Q h => ?_, tk_of (fun _ z => nomatch z) hp⟩
  obtain ⟨F, ρ, r, h⟩ := h
  refine ⟨F, ρ, r, (post.bind (f := fun x ρ1 => asB x ρ1 fun k => if k then ev C true ia ρ1 else ev C true ib ρ1) h).mono fun x F1 H1 ρ1 g1 s1 h3 => ?_⟩
  obtain ⟨k, e, h4⟩ := (h3 F1 g1 s1).asB
  refine ⟨k, e, ?_⟩
  cases k with
  | true =>
    rw [if_pos rfl] at h4 ⊢
    exact ⟨F1, ρ1, g1, h4⟩
  | false =>
    rw [if_neg Bool.false_ne_true] at h4 ⊢
    exact ⟨F1, ρ1, g1, h4⟩

/-! ### minus, subscripts, slices -/
theorem snd_neg (ha : Snd X EA W C a ia) : Snd X EA W C (.UnaryOp .USub a pos) (.neg ia) := by
  refine Snd.of (raw := fun ρ => (ev C false ia ρ).bind fun x ρ1 => match x.2 with | .int i => .ok (false, .int (-i)) ρ1 | _ => .bad) (fun m ρ => rfl) (fun _ z => nomatch z) (fun _ _ => rfl) (PE.imp' (pe_un un_neg ha.v) fun σ H Q h => ?_)
  obtain ⟨F, ρ, r, h⟩ := h
  refine ⟨F, ρ, r, h.bind.mono fun x F1 H1 ρ1 g1 s1 h3 v1 p1 => ?_⟩
  obtain ⟨f1, x⟩ := x
  replace h3 := h3 F1 g1 s1
  split at h3
  · rename_i i e
    simp only at e
    subst e
    exact ⟨i, p1.int, h3.here g1 _ rfl⟩
  · exact h3.elim
theorem snd_idx (hu : X.A.units + 1 < cLine) (ha : Snd X EA W C a ia) (hb : Snd X EA W C b ib) (hs : PlainIx b) : Snd X EA W C (.Subscript a b pos) (.idx ia ib) := by
  refine Snd.of (raw := raw2 C ia ib fun x y => (idxV x y).map fun d => (false, d)) (fun m ρ => rfl) (fun _ z => nomatch z) (fun _ _ => rfl) (PE.imp' (pe_ix (ix_any hu) ha.p hb.p hs) fun σ H Q h => red2 (fun {F H ρ σ d e z x y fr Q} r hx hy h q => ?_) h)
  rw [Option.map_eq_some_iff] at h
  obtain ⟨d', e1, e2⟩ := h
  cases e2
  exact idx_of r hx hy e1 q
end
end Cw
set_option Elab.async false
set_option linter.all false
set_option maxRecDepth 100000
set_option maxHeartbeats 4000000
set_option autoImplicit false
/-! Cw, part I: argument lists, displays, built-ins, calls -/
namespace Cw
open PySem L2

section
variable {X : Cx} {EA : Nat → Addr} {W : WX} {C : CallSem} {σ : L2.St} {F F' : FS} {H H' : Hp} {ρ ρ' : Rho} {a b c : Expr} {ia ib ic : IE} {pos : Pos} {es : List Expr} {ies : List IE}

def NoStar (e : Expr) : Prop := ∀ (rest : List Expr) (env : PySem.Env), starEach (e :: rest) env = (false, eval e env) :: starEach rest env
inductive SndL (X : Cx) (EA : Nat → Addr) (W : WX) (C : CallSem) : List Expr → List IE → Prop
  | nil : SndL X EA W C [] []
  | cons {e : Expr} {ie : IE} {es : List Expr} {ies : List IE} : Snd X EA W C e ie → NoStar e → SndL X EA W C es ies → SndL X EA W C (e :: es) (ie :: ies)
theorem SndL.plain (h : SndL X EA W C es ies) (pos : Pos) (env : PySem.Env) : (backTo pos (starEach es env)).any (·.1) = false := by
  induction h with
  | nil => rfl
  | cons _ n _ ih => rw [n]; exact ih
theorem SndL.len (h : SndL X EA W C es ies) : es.length = ies.length := by
  induction h with
  | nil => rfl
  | cons _ n _ ih => rw [List.length_cons, List.length_cons, ih]
theorem SndL.starLen (h : SndL X EA W C es ies) (env : PySem.Env) : (starEach es env).length = es.length := by
  induction h with
  | nil => rfl
  | cons _ n _ ih => rw [n, List.length_cons, List.length_cons, ih]
theorem SndL.pa (h : SndL X EA W C es ies) : PA X es (tL X.K EA W C ies) := by
  induction h with
  | nil =>
    refine PA.imp' pa_nil fun σ H Q h => ?_
    obtain ⟨F, ρ, r, h⟩ := h
    exact h.here r [] rfl
  | cons s n _ ih =>
    refine PA.imp' (pa_cons s.v ih (n _ _)) fun σ H Q h => ?_
    obtain ⟨F, ρ, r, h⟩ := h
    simp only [evL] at h
    refine ⟨F, ρ, r, h.bind.mono fun x F1 H1 ρ1 g1 s1 h1 v rv => ?_⟩
    obtain ⟨G, rG, sG, rep, _⟩ := share r s1 g1 rv
    refine ⟨G, ρ1, rG, (h1 G rG sG).bind.mono fun ds F2 H2 ρ2 g2 s2 h3 vs rvs => ?_⟩
    exact (h3 F2 g2 s2).here g2 _ ⟨v, vs, rfl, rep.step rG s2.1, rvs⟩
theorem TokR.step {K : PySem.W.Frag} (r : Rel K F H ρ σ) (s : EStep F H ρ σ F' H' ρ') : ∀ {ts : List ATok} {vs : List V}, TokR K F H σ ts vs → TokR K F' H' σ ts vs
  | [], _, h => h
  | .val d :: ts, _, ⟨v, w, e, h1, h2⟩ => ⟨v, w, e, h1.step r s.1, TokR.step r s h2⟩
  | .slot i :: ts, _, ⟨v, w, e, h1, h2⟩ => ⟨v, w, e, h1, TokR.step r s h2⟩
theorem TokR.cons {K : PySem.W.Frag} {t : ATok} {ts : List ATok} {v : V} {vs : List V} (h1 : Tok1 K F H σ t v) (h2 : TokR K F H σ ts vs) : TokR K F H σ (t :: ts) (v :: vs) := by
  cases t with
  | val d => exact ⟨v, vs, rfl, h1, h2⟩
  | slot i => exact ⟨v, vs, rfl, h1, h2⟩
theorem Tok1.step {K : PySem.W.Frag} (r : Rel K F H ρ σ) (s : EStep F H ρ σ F' H' ρ') {t : ATok} {v : V} (h : Tok1 K F H σ t v) : Tok1 K F' H' σ t v := by
  cases t with
  | val d => exact Rep.step r s.1 h
  | slot i => exact h
theorem SndL.paA (h : SndL X EA W C es ies) : PA X es (tA X.K EA W C ies) := by
  induction h with
  | nil =>
    refine PA.imp' pa_nil fun σ H Q h => ?_
    obtain ⟨F, ρ, r, h⟩ := h
    exact h.here r [] rfl
  | cons s n _ ih =>
    refine PA.imp' (pa_cons s.a ih (n _ _)) fun σ H Q h => ?_
    obtain ⟨F, ρ, r, h⟩ := h
    simp only [evA] at h
    refine ⟨F, ρ, r, h.bind.mono fun x F1 H1 ρ1 g1 s1 h1 v rv => ?_⟩
    refine ⟨F1, ρ1, g1, (h1 F1 g1 s1).bind.mono fun ds F2 H2 ρ2 g2 s2 h3 vs rvs => ?_⟩
    exact (h3 F2 g2 s2).here g2 _ (.cons (rv.step g1 s2) rvs)

/-! ### displays -/
theorem post.lenOk {K : PySem.W.Frag} {ds : List PV} {f : R (Bool × PV)} {φ : (Bool × PV) → FS → Hp → Rho → Prop} (h : post K EA W σ F H ρ (Cw.lenOk ds ρ f) φ) : ds.length ≤ sizeLine ∧ post K EA W σ F H ρ f φ := by
  unfold Cw.lenOk at h
  split at h
  · rename_i hl; exact ⟨len16 hl, h⟩
  · exact h.elim
/-- what a result is to lead to -/
theorem post.res1 {K : PySem.W.Frag} {H0 : Hp} {fr : Bool} {z : PV} {Q : VK} (h : post K EA W σ F H ρ (.ok (fr, z) ρ) fun x F' H' _ => ∀ v, RepS K F' H' H0 x.1 x.2 v → Q v H') (al : ∀ a, H a = none → H0 a = none) : Res K σ ρ F H fr z Q :=
  fun F' H' v r' s' rv => h F' H' r' s' v (rv.back al)
theorem snd_tup {k : Nat} (h : SndL X EA W C es ies) : Snd X EA W C (.Tuple es k pos) (.tup ies) := by
  refine Snd.of (raw := fun ρ => (evL C ies ρ).bind fun ds ρ1 => lenOk ds ρ1 (.ok (false, .tup ds) ρ1)) (fun m ρ => rfl) (fun _ z => nomatch z) (fun _ _ => rfl) (PE.imp' (pe_tup h.pa) fun σ H Q h => ?_)
  obtain ⟨F, ρ, r, h⟩ := h
  refine ⟨F, ρ, r, h.bind.mono fun ds F1 H1 ρ1 g1 s1 h1 vs rvs => ?_⟩
  obtain ⟨hl, h2⟩ := (h1 F1 g1 s1).lenOk
  exact ⟨by rw [rvs.len]; exact hl, fun p hp => (h2.res1 s1.1.al).tup g1 hp rvs⟩
theorem snd_lst (h : SndL X EA W C es ies) : Snd X EA W C (.List es pos) (.lst ies) := by
  refine Snd.of (raw := fun ρ => (evL C ies ρ).bind fun ds ρ1 => lenOk ds ρ1 (.ok (true, .lst ds) ρ1)) (fun m ρ => rfl) (fun _ z => nomatch z) (fun _ _ => rfl) (PE.imp' (pe_lst h.pa) fun σ H Q h => ?_)
  obtain ⟨F, ρ, r, h⟩ := h
  refine ⟨F, ρ, r, h.bind.mono fun ds F1 H1 ρ1 g1 s1 h1 vs rvs => ?_⟩
  obtain ⟨hl, h2⟩ := (h1 F1 g1 s1).lenOk
  exact ⟨by rw [rvs.len]; exact hl, fun p hp => (h2.res1 s1.1.al).lst g1 hp rvs⟩

/-! ### slices -/
def tSb (K : PySem.W.Frag) (EA : Nat → Addr) (W : WX) (C : CallSem) (ie : IE) : TO := fun σ H Q => ∃ F ρ, Rel K F H ρ σ ∧ post K EA W σ F H ρ (sliceB ie (ev C false ie ρ) ρ) fun o F' H' ρ' => Q o H'
theorem PO.imp' {e : Option Expr} {t t' : TO} (h : PO X e t) (i : ∀ σ H Q, t' σ H Q → t σ H Q) : PO X e t' := ⟨fun pins s σ H Q I q => h.run pins s σ H Q I (i σ H Q q)⟩
theorem po_n : PO X none (tSb X.K EA W C (.cst .non)) := PO.imp' po_none fun σ H Q h => by
  obtain ⟨F, ρ, r, h⟩ := h
  exact h.here r
theorem po_s (ha : Snd X EA W C a ia) (hn : ∀ r ρ, sliceB ia r ρ = r.bind fun fd ρ1 => match fd.2 with | .int i => .ok (some i) ρ1 | _ => .bad) : PO X (some a) (tSb X.K EA W C ia) := PO.imp' (po_some ha.v) fun σ H Q h => by
  obtain ⟨F, ρ, r, h⟩ := h
  rw [hn] at h
  refine ⟨F, ρ, r, h.bind.mono fun x F1 H1 ρ1 g1 s1 h1 v rv => ?_⟩
  obtain ⟨f1, x⟩ := x
  replace h1 := h1 F1 g1 s1
  split at h1
  · rename_i i e
    simp only at e
    subst e
    exact ⟨i, rv.int, h1.here g1⟩
  · exact h1.elim
theorem snd_slc {lo hi : Option Expr} {il ih : IE} {p2 : Pos} (ha : Snd X EA W C a ia) (hl : PO X lo (tSb X.K EA W C il)) (hh : PO X hi (tSb X.K EA W C ih)) : Snd X EA W C (.Subscript a (.Slice lo hi none p2) pos) (.slc ia il ih) := by
  refine Snd.of (raw := fun ρ => (pk ia (ev C false ia ρ) ρ).bind fun x ρ1 => (sliceB il (ev C false il ρ1) ρ1).bind fun l ρ2 => (sliceB ih (ev C false ih ρ2) ρ2).bind fun h ρ3 => match rpk ia x.2 ρ3 with
      | some x' => R.opt (slcV x' l h) ρ3
      | none => .bad) (fun m ρ => rfl) (fun _ z => nomatch z) (fun _ _ => rfl) (PE.imp' (pe_slice sl_any ha.p hl hh) fun σ H Q h => ?_)
  obtain ⟨F, ρ, r, h⟩ := h
  refine ⟨F, ρ, r, h.bind.mono fun x F1 H1 ρ1 g1 s1 h1 v pk1 p1 => ?_⟩
  refine ⟨F1, ρ1, g1, (h1 F1 g1 s1).bind.mono fun l F2 H2 ρ2 g2 s2 h2 => ?_⟩
  refine ⟨F2, ρ2, g2, (h2 F2 g2 s2).bind.mono fun u F3 H3 ρ3 g3 s3 h3 => ?_⟩
  have h4 := h3 F3 g3 s3
  cases e : rpk ia x.2 ρ3 with
  | none => rw [e] at h4; exact h4.elim
  | some d =>
    rw [e] at h4
    obtain ⟨fr, z, ez, q⟩ := post.res h4 fun a n => s1.1.al a (s2.1.al a (s3.1.al a n))
    exact slc_of g3 (pk1.later r s1 g1 (s2.trans s3) g3 e) ez q

/-! ### built-ins by name -/
theorem snd_blt {bi : Bi} {x : Str} {p : Pos} (hn : x = biN bi) (hc : X.calm = true) (hg : X.A.guards = some []) (hu : X.A.units + 200 < cLine) (hgl : Gl X x) (hm : X.mg x = none) (hb : bootBuiltins x = some (biV bi))
    (h1 : x ≠ "__name__") (h2 : (x == ("__debug__" : Str)) = false) (ha : Snd X EA W C a ia) (hs : NoStar a) : Snd X EA W C (.Call (.Name x p) [a] [] pos) (.blt bi ia) := by
  have he : starEach [a] X.env = (false, eval a X.env) :: starEach [] X.env := hs _ _
  have hp : PE X (.Call (.Name x p) [a] [] pos) (tCB (rB1 X bi) (tCons (tPk X.K EA W C ia) tNil)) := by
    have hr := call_b1 hc hg hu bi
    have pa : PA X [a] (tCons (tPk X.K EA W C ia) tNil) := pa_cons ha.p pa_nil he
    cases bi <;> first | exact pe_callB hr hgl hm hb pa h1 h2 he rfl | exact pe_callTy hr hgl hm hb pa h1 h2 he rfl
  refine Snd.of (raw := fun ρ => (pk ia (ev C false ia ρ) ρ).bind fun x ρ1 => R.opt (bltV bi [x.2]) ρ1) (fun m ρ => rfl) (fun _ z => nomatch z) (fun _ _ => rfl) (PE.imp' hp fun σ H Q h => ?_)
  obtain ⟨F, ρ, r, h⟩ := h
  refine ⟨F, ρ, r, h.bind.mono fun x F1 H1 ρ1 g1 s1 h1 v pk1 p1 => ?_⟩
  obtain ⟨fr, z, ez, q⟩ := post.res (h1 F1 g1 s1) s1.1.al
  exact b1_of g1 p1 ez q
theorem snd_bltn {bi : Bi} {x : Str} {p : Pos} (hn : x = biN bi) (hc : X.calm = true) (hg : X.A.guards = some []) (hu : X.A.units + 200 < cLine) (hgl : Gl X x) (hm : X.mg x = none) (hb : bootBuiltins x = some (biV bi))
    (h1 : x ≠ "__name__") (h2 : (x == ("__debug__" : Str)) = false) {b : Expr} {ib : IE} (ha : Snd X EA W C a ia) (hs : NoStar a) (hb' : Snd X EA W C b ib) (hs' : NoStar b) : Snd X EA W C (.Call (.Name x p) [a, b] [] pos) (.bltn bi [ia, ib]) := by
  have hL : SndL X EA W C [a, b] [ia, ib] := .cons ha hs (.cons hb' hs' .nil)
  have hp : PE X (.Call (.Name x p) [a, b] [] pos) (tCB (rB1 X bi) (tL X.K EA W C [ia, ib])) := by
    have hr := call_b1 hc hg hu bi
    have pa := hL.pa
    have he := hs [b] X.env
    have hpl : (backTo pos (starEach [b] X.env)).any (·.1) = false := by rw [hs' [] X.env]; rfl
    cases bi <;> first | exact pe_callB hr hgl hm hb pa h1 h2 he hpl | exact pe_callTy hr hgl hm hb pa h1 h2 he hpl
  refine Snd.of (raw := fun ρ => (evL C [ia, ib] ρ).bind fun ds ρ1 => R.opt (bltV bi ds) ρ1) (fun m ρ => rfl) (fun _ z => nomatch z) (fun _ _ => rfl) (PE.imp' hp fun σ H Q h => ?_)
  obtain ⟨F, ρ, r, h⟩ := h
  have hlen : ∀ ds ρ', evL C [ia, ib] ρ = .ok ds ρ' → ds.length = 2 := fun ds ρ' e => by
    obtain ⟨_, _, _, e⟩ := bind_inv e
    obtain ⟨_, _, e2, e⟩ := bind_inv e
    obtain ⟨_, _, _, e2⟩ := bind_inv e2
    obtain ⟨_, _, e3, e2⟩ := bind_inv e2
    cases e3
    cases e2
    cases e
    rfl
  refine ⟨F, ρ, r, ?_⟩
  have hk := h.bind
  cases e : evL C [ia, ib] ρ with
  | ok ds ρ1 =>
    rw [e] at hk
    intro F1 H1 g1 s1 vs rvs
    obtain ⟨fr, z, ez, q⟩ := post.res (hk F1 H1 g1 s1 F1 g1 s1) s1.1.al
    exact b2_of g1 rvs (by rw [hlen ds ρ1 e]; exact Nat.le_refl _) ez q
  | exc _ _ _ => rw [e] at hk; exact hk
  | bad => rw [e] at hk; exact hk
end
end Cw
set_option Elab.async false
set_option linter.all false
set_option maxRecDepth 100000
set_option maxHeartbeats 4000000
set_option autoImplicit false
/-! Cw, part Ia: sorted(set(xs)), xs a list of ints -/
namespace Cw
open PySem PySem.Spec PyProof.Rows L2

/-- a set with nothing in it -/
abbrev newS (w : World) : Obj := { cls := .type "set", dict := none, data := .set #[] 0 (.fresh 0 0 (!w.params.followText "set-order")) }
/-- the set at p holds these ints -/
def Holds (w : World) (s : Shared) (ns : List Int) (h : Heap) : Prop := ∃ c, c ≤ ns.length ∧ SetR w h s.heap.objs.size (fun j => decide (j ∈ ns)) c ∧ ∀ b o, s.heap.get? b = some o → h.get? b = some o
section
variable {P : Program} {w : World} {A : Around} {E : Value → Shared → Prop} {s : Shared}
set_option maxHeartbeats 3200000 in
theorem fill_list {l : Addr} {xs : Array Value} (ns : List Int) (nh : A.handled = none) (il : s.heap.IsList l xs) (ii : IntsAre xs.toList ns) (room : ns.length + 1 < scanBound) :
    codeAny (model P w) A (.call (.builtin "set.__init__") ⟨[.ref s.heap.objs.size, .ref l], []⟩) (wants (fun r t => r = .none ∧ ∃ h tk, t = { s with heap := h, toks := tk } ∧ Holds w s ns h) E) { s with heap := s.heap.push (newS w) } := by
  have sz : xs.size = ns.length := by
    have e := ii.length
    rwa [Array.length_toList] at e
  have at0 : (s.heap.push (newS w)).get? s.heap.objs.size = some (newS w) := Heap.get?_push_size _ rfl
  have ty0 : Shared.TypeIs { s with heap := s.heap.push (newS w) } (.ref s.heap.objs.size) "set" := ⟨_, at0, rfl⟩
  refine codeAny_mono (codeAny_call_builtin (R := wants (fun r t => r = .none ∧ ∃ h tk, t = { s with heap := h, toks := tk } ∧ Holds w s ns h) E) F.called_set.init.plain F.entry_set_init (check_set_init_1 ty0 ?_)) fun r t z => z
  have lt := Heap.lt_size il.choose_spec.1
  have il2 : (s.heap.push (newS w)).IsList l xs := il.push _
  obtain ⟨o, go, co, n, dn⟩ := il
  obtain ⟨oc, od, odt, osl⟩ := o
  simp only at co dn
  subst co dn
  have go2 : (s.heap.push (newS w)).get? l = some { cls := .type "list", dict := od, data := .seq xs n, slots := osl } := Heap.get?_push_of_some _ go
  have s1 := F.sub_list_set
  have s2 := F.sub_list_frozenset
  have ne : (Value.type "list" == Value.type "dict") = false := by decide
  unfold Builtin.«set.__init__» noKeywords Builtin.Frozenset.updateFrom
  generalize hIt : pyIter = It0
  wp_walk
  subst hIt
  refine wpAny_pyIter_list il2 (wpAny_bind (wpAny_runValue ?_))
  have ez : (s.heap.push (newS w)).objs.size = s.heap.objs.size + 1 := Heap.size_push ..
  have neI : l ≠ (s.heap.push (newS w)).objs.size := by rw [ez]; exact Nat.ne_of_lt (Nat.lt_succ_of_lt lt)
  have nin : s.heap.objs.size ∉ [(s.heap.push (newS w)).objs.size, l] := by
    rw [ez]
    simp only [List.mem_cons, List.not_mem_nil, or_false, not_or]
    exact ⟨Nat.ne_of_lt (Nat.lt_succ_self _), Nat.ne_of_gt lt⟩
  have is3 : A.in1.in1.handled = none := nh
  have vals : ∀ (i : Nat) (v : Value), xs[i]? = some v → ∃ k t, ns[i]? = some k ∧ v = .int k t := by
    intro i v e
    have lti : i < ns.length := by rw [← sz]; exact (Array.getElem?_eq_some_iff.mp e).1
    obtain ⟨t, q⟩ := ii.int_at i v (by rw [Array.getElem?_toList]; exact e)
    refine ⟨ns[i], t, List.getElem?_eq_getElem lti, ?_⟩
    rw [q, List.getD_eq_getElem?_getD, List.getElem?_eq_getElem lti] <;> rfl
  refine set_update_ints ((Walks.list is3 _ l neI xs).toS) s.heap.objs.size nin ns sz room vals (xs.size - 0) 0 _ (by omega) (Nat.zero_le _) ?st ?start ?fin
  case st => exact ⟨⟨_, Heap.get?_push_size _ rfl, rfl, rfl⟩, il2.push _⟩
  case start => exact ⟨0, Nat.le_refl 0, setR_new_at (Heap.get?_push_of_some _ at0)⟩
  case fin =>
    intro t c mv le R
    obtain ⟨h, g, d, tk, os⟩ := t
    obtain rfl : g = s.gens := mv.gens
    obtain rfl : d = s.drawn := mv.drawn
    obtain rfl : os = s.os := mv.os
    refine wpAny_pure (wpAny_pure ⟨rfl, h, tk, rfl, c, by rw [← sz]; exact le, R, fun b o e => ?_⟩)
    have b0 := Heap.lt_size e
    refine mv.heap b o ?_ (Heap.get?_push_of_some _ (Heap.get?_push_of_some _ e))
    rw [ez]
    simp only [List.mem_cons, List.not_mem_nil, or_false, not_or]
    exact ⟨Nat.ne_of_lt b0, Nat.ne_of_lt (Nat.lt_succ_of_lt b0)⟩
set_option maxHeartbeats 3200000 in
theorem set_of_list {l : Addr} {xs : Array Value} (ns : List Int) {Q : Value → Shared → Prop} (nh : A.handled = none) (il : s.heap.IsList l xs) (ii : IntsAre xs.toList ns) (room : ns.length + 1 < scanBound) (fin : ∀ h tk, Holds w s ns h → Q (.ref s.heap.objs.size) { s with heap := h, toks := tk }) :
    wpAny (model P w) A (call (.type "set") [.ref l]) Q E s := by
  have made := F.called_set.made
  have sub := F.called_set.sub
  obtain ⟨mh, mt, mro⟩ := F.called_set.mro
  refine wpAny_call (codeAny_of_tree (show wpAny _ _ (callAny (.type "set") _) _ _ _ from wpAny_pure ⟨Code.quiet_builtin _ (by decide +kernel), codeAny_builtin F.entry_type_call ?_⟩))
  rw [Around.under_plain (weight_type_call_type "set" [.ref l] []) rfl]
  have k1 := F.called_set.canCreate
  have k2 := F.called_set.notType
  have k3 := F.typeCall_set_1 (.ref l)
  repeat (any_goals first | wp_step | assumption)
  refine codeAny_mono (code_set_led1 (.ref l) (E := E) (Q₁ := fun v t => v = .ref s.heap.objs.size ∧ t = { s with heap := s.heap.push (newS w) }) ⟨rfl, rfl⟩) fun r t z => ?_
  cases r with
  | error e => exact z
  | ok fl =>
    cases fl with
    | ret v =>
      obtain ⟨rfl, rfl⟩ := z
      have ty0 : Shared.TypeIs { s with heap := s.heap.push (newS w) } (.ref s.heap.objs.size) "set" := ⟨_, Heap.get?_push_size _ rfl, rfl⟩
      have k4 := F.called_set.init.lookup
      have k5 := F.called_set.init.bind (.ref s.heap.objs.size)
      repeat (any_goals first | wp_step | assumption)
      refine codeAny_mono (fill_list (E := E) ns nh il ii room) fun r2 t2 z2 => ?_
      cases r2 with
      | error e => exact z2
      | ok fl2 =>
        cases fl2 with
        | ret v2 =>
          obtain ⟨rfl, h, tk, rfl, hh⟩ := z2
          repeat (any_goals first | wp_step | assumption)
          exact fin _ _ hh
        | next => exact z2.elim
        | brk => exact z2.elim
        | cont => exact z2.elim
    | next => exact z.elim
    | brk => exact z.elim
    | cont => exact z.elim
end
section
variable {X : Cx}
/-- set(xs), xs a list of ints -/
def rSetLI (X : Cx) : List V → Hp → VK → Prop := fun vs H Q => ∃ (l : Addr) (ns : List Int), vs = [V.ref l] ∧ SqL X.K H l (ns.map V.int) ∧ ns.length < 64 ∧ ∀ p c, H p = none → c ≤ ns.length → Q (.ref p) (upd H p (SetO X.w p (fun j => decide (j ∈ ns)) c))
theorem cr_setLI (hc : X.calm = true) : CallR X (.type "set") (rSetLI X) := by
  intro pins s σ H vs us Q I r h
  obtain ⟨l, ns, rfl, sq, le, q⟩ := h
  obtain ⟨its, rv, tl, _⟩ := I.list sq
  rw [Vals.ref1 r]
  refine set_of_list ns (I.ok.hd hc) tl.isList (by simpa using ints_of_vals rv) (by unfold scanBound; omega) fun h tk ⟨c, lc, R, kp⟩ => ?_
  have free := I.hok.fresh (Nat.le_refl s.heap.objs.size)
  exact ⟨.ref s.heap.objs.size, _, I.laid (t' := tk) kp (Nat.le_refl _) (setO_new R), rfl, q _ c free lc⟩
end
theorem dedup_mem (i : Int) : ∀ ns : List Int, i ∈ dedupI ns ↔ i ∈ ns
  | [] => Iff.rfl
  | n :: ns => by
    unfold dedupI
    split
    · rename_i h
      rw [dedup_mem, List.mem_cons]
      exact ⟨.inr, fun z => z.elim (fun e => by rw [e]; exact List.contains_iff_mem.mp h) id⟩
    · rw [List.mem_cons, List.mem_cons, dedup_mem]
theorem dedup_nodup : ∀ ns : List Int, (dedupI ns).Nodup
  | [] => .nil
  | n :: ns => by
    unfold dedupI
    split
    · exact dedup_nodup ns
    · rename_i h
      exact List.nodup_cons.mpr ⟨fun z => h (List.contains_iff_mem.mpr ((dedup_mem n ns).mp z)), dedup_nodup ns⟩
theorem sset_eq {ns ms : List Int} (p : ms.Pairwise (· < ·)) (m : ∀ k : Int, k ∈ ms ↔ k ∈ ns) : ms = srtI (dedupI ns) := by
  refine srt_eq ?_ (p.imp Int.le_of_lt)
  rw [List.perm_ext_iff_of_nodup (p.imp Int.ne_of_lt) (dedup_nodup ns)]
  exact fun k => (m k).trans (dedup_mem k ns).symm
section
variable {X : Cx} {EA : Nat → Addr} {W : WX} {C : CallSem} {a : Expr} {ia : IE} {p p2 q pos : Pos}
theorem snd_sset (hc : X.calm = true) (hg : Gl X "sorted") (hm : X.mg "sorted" = none) (hg2 : Gl X "set") (hm2 : X.mg "set" = none) (ha : Snd X EA W C a ia) (hs : NoStar a) : Snd X EA W C (.Call (.Name "sorted" p) [.Call (.Name "set" p2) [a] [] q] [] pos) (.sset ia) := by
  have he : starEach [a] X.env = (false, eval a X.env) :: starEach [] X.env := hs _ _
  have inner : PE X (.Call (.Name "set" p2) [a] [] q) (tCB (rSetLI X) (tCons (tPk X.K EA W C ia) tNil)) := pe_callTy (cr_setLI hc) hg2 hm2 rfl (pa_cons ha.p pa_nil he) (by decide) (by decide) he rfl
  have outer : PE X (.Call (.Name "sorted" p) [.Call (.Name "set" p2) [a] [] q] [] pos) _ := pe_callB (cr_sortedSet hc) hg hm rfl (pa_cons inner pa_nil) (by decide) (by decide) rfl rfl
  refine Snd.of (raw := fun ρ => (pk ia (ev C false ia ρ) ρ).bind fun x ρ1 => R.opt (ssetV x.2) ρ1) (fun m ρ => rfl) (fun _ z => nomatch z) (fun _ _ => rfl) (PE.imp' outer fun σ H Q h => ?_)
  obtain ⟨F, ρ, r, h⟩ := h
  refine ⟨F, ρ, r, h.bind.mono fun x F1 H1 ρ1 g1 s1 h1 v pk1 p1 => ?_⟩
  obtain ⟨fr, z, ez, qq⟩ := post.res (h1 F1 g1 s1) s1.1.al
  obtain ⟨f1, d⟩ := x
  dsimp only at ez p1
  cases d <;> first | (cases ez; done) | skip
  rename_i ds
  simp only [ssetV, Option.bind_eq_some_iff] at ez
  obtain ⟨ns, e, ez⟩ := ez
  split at ez
  · rename_i lt
    cases ez
    obtain ⟨l, vs, rfl, hl, rr⟩ := p1.lst
    have := rr.allInt e
    subst this
    refine ⟨l, ns, rfl, .of hl, lt, fun t c ht hcn => ⟨t, _, c, rfl, upd_same, by omega, fun ms u m1 m2 m3 hu => ?_⟩⟩
    have ems := sset_eq m1 (fun k => (m2 k).trans (by rw [decide_eq_true_eq]))
    rw [← ems] at qq
    have r2 := g1.lay ht (SetO X.w t (fun j => decide (j ∈ ns)) c)
    have s2 := EStep.lay g1 ht (SetO X.w t (fun j => decide (j ∈ ns)) c)
    have hu1 : H1 u = none := by
      by_cases e : u = t
      · subst e; exact ht
      · rw [upd_ne e] at hu; exact hu
    exact qq _ _ _ (r2.lay hu _) (s2.trans (EStep.lay r2 hu _)) ⟨u, rfl, ⟨fun f => r2.ft u f hu, ms.map V.int, upd_same, Reps.ofInts ms⟩, hu1⟩
  · cases ez
end
end Cw
set_option Elab.async false
set_option linter.all false
set_option maxRecDepth 100000
set_option maxHeartbeats 4000000
set_option autoImplicit false
/-! Cw, part J: methods of mutable objects, starred displays -/
namespace Cw
open PySem L2

section
variable {K : PySem.W.Frag} {X : Cx} {EA : Nat → Addr} {W : WX} {C : CallSem} {σ : L2.St} {F F' : FS} {H H' : Hp} {ρ ρ' : Rho} {a b c : Expr} {ia ib ic : IE} {pos : Pos} {es : List Expr} {ies : List IE}

/-- an owned object is changed -/
theorem Rel.mutate (r : Rel K F H ρ σ) {i : Nat} {s : Stt} {d d' : PV} {x : Addr} {o : HO} (h : ρ[i]? = some (some (s, d))) (m : s.mut = true) (hx : σ[i]? = some (some (.ref x))) (new : OwnAt K F (upd H x o) d' x) :
    Rel K F (upd H x o) (ρ.set i (some (s, d'))) σ ∧ EStep F H ρ σ F (upd H x o) (ρ.set i (some (s, d'))) := by
  have own : OwnA ρ σ x := ⟨i, s, d, h, m, hx⟩
  have nf := r.notF own
  have kp : ∀ b u, F b → H b = some u → upd H x o b = some u := fun b u f e => by rw [upd_ne (fun z => by subst z; exact nf.1 f)]; exact e
  have hself := set_at (x := some (s, d')) h
  refine ⟨⟨by rw [List.length_set]; exact r.len, fun b f => ?_, fun j t e hj hm => ?_, fun j t e hj hm => ?_, fun j k t e t' e' y hj hm hk hm' hv hv' => ?_⟩, ⟨⟨fun b u e n => ?_, fun b e => ?_, fun _ z => z, fun _ z => .inl z, fun b q => ?_, fun j t e hj hp => ?_⟩, fun j t e hj hm => ?_⟩⟩
  · by_cases c : b = x
    · subst c; rw [upd_same]; simp
    · rw [upd_ne c]; exact r.ft b f
  · by_cases c : i = j
    · subst c
      rw [hself] at hj
      cases hj
      cases s <;> first | (cases m; done) | (cases hm; done)
    · rw [set_ne c] at hj
      obtain ⟨v, q1, q2⟩ := r.rd j t e hj hm
      exact ⟨v, q1, q2.keep (fun _ z => z) kp⟩
  · by_cases c : i = j
    · subst c
      rw [hself] at hj
      cases hj
      exact ⟨x, hx, new⟩
    · rw [set_ne c] at hj
      obtain ⟨y, q1, q2⟩ := r.ow j t e hj hm
      have ne : y ≠ x := fun z => by subst z; exact c (r.ap i j _ _ _ _ y h m hj hm hx q1)
      exact ⟨y, q1, q2.keep (fun _ z => z) kp q2.1 (by rw [upd_ne ne])⟩
  · have g : ∀ {j : Nat} {t : Stt} {e : PV}, (ρ.set i (some (s, d')))[j]? = some (some (t, e)) → ∃ e0, ρ[j]? = some (some (t, e0)) := fun {j t e} hj => by
      by_cases c : i = j
      · subst c
        rw [hself] at hj
        cases hj
        exact ⟨d, h⟩
      · rw [set_ne c] at hj; exact ⟨e, hj⟩
    obtain ⟨e0, g1⟩ := g hj
    obtain ⟨e1, g2⟩ := g hk
    exact r.ap j k _ _ _ _ y g1 hm g2 hm' hv hv'
  · rw [upd_ne (fun z => by subst z; exact n own)]; exact e
  · by_cases c : b = x
    · subst c; rw [upd_same] at e; cases e
    · rw [upd_ne c] at e; exact e
  · obtain ⟨j, t, e, hj, hm, hv⟩ := q
    by_cases c : i = j
    · subst c
      rw [hself] at hj
      cases hj
      exact .inl ⟨i, _, _, h, m, hv⟩
    · rw [set_ne c] at hj
      exact .inl ⟨j, t, e, hj, hm, hv⟩
  · by_cases c : i = j
    · subst c
      rw [hself] at hj
      cases hj
      exact ⟨rfl, s, d, h, hp, .inl rfl⟩
    · rw [set_ne c] at hj
      exact ⟨rfl, t, e, hj, hp, .inl rfl⟩
  · by_cases c : i = j
    · subst c
      rw [hself] at hj
      cases hj
      exact ⟨d, h⟩
    · rw [set_ne c] at hj
      exact ⟨e, hj⟩
theorem OwnAt.newL {x : Addr} {ds : List PV} {vs : List V} (nf : ¬ F x) (kp : ∀ b u, F b → H b = some u → H' b = some u) (e : H' x = some (.lst vs)) (h : Reps K F H ds vs) : OwnAt K F H' (.lst ds) x := ⟨nf, vs, e, Reps.keep (fun _ z => z) kp _ _ h⟩
theorem kp_of {x : Addr} {o : HO} (nf : ¬ F x) : ∀ b u, F b → H b = some u → upd H x o b = some u := fun b u f e => by rw [upd_ne (fun z => by subst z; exact nf f)]; exact e

/-! ### list.extend of a tuple, dict.update -/
theorem list_extTupleAny (l : Addr) (items : Array Value) (n : Nat) (b : Addr) (items2 : Array Value) (n2 : Nat) (dd : Option Addr) (sl : Array (Option Value)) (hs0 : ¬(!items.isEmpty && Builtin.List.listTooLong (items.size + items2.size)) = true) (hs1 : items.size ≤ sizeLine) (hs2 : items.size + items2.size ≤ sizeLine + 1) :
    PySem.Meets (Builtin.«list.extend» ⟨[.ref l, .ref b], []⟩) (fun _ R s => s.heap.get? l = some { cls := .type "list", dict := none, data := .seq items n, slots := #[] } ∧ s.heap.get? b = some { cls := .type "tuple", dict := dd, data := .seq items2 n2, slots := sl } ∧ R (.ok (.ret Value.none)) { s with heap := s.heap.update l (Obj.mapSeq fun x => x ++ items2), toks := s.toks }) :=
  .of_wp fun prog w A R s h => by
    obtain ⟨hp, g, d, tk, os⟩ := s
    obtain ⟨hl, hb, h⟩ := h
    have f1 := PySem.AutoSeq1.idx_int
    have f2 := PySem.AutoSeq1.sub_tuple_tuple
    have f3 := PySem.AutoSeq1.sub_list_list
    have f4 := PySem.AutoSeq1.sub_tuple_list
    have f5 := PySem.AutoSeq1.sub_list_tuple
    have hz' : (items ++ items2).size ≤ sizeLine + 1 := by rw [Array.size_append]; exact hs2
    wp_walk using (wpAny_updateSeq hl rfl (hz := hs1) (_hz' := hz')), wpAny_loadPart' hl, wpAny_loadPart' hb
    exact ⟨_, rfl, h⟩

end

section
variable {X : Cx} {pins : List (Addr × Obj)} {σ : L2.St} {H : Hp} {s : Shared}
def rExtT (K : PySem.W.Frag) : V → List V → Hp → VK → Prop := fun x vs H Q => ∃ l b xs zs, x = .ref l ∧ vs = [.ref b] ∧ H l = some (.lst xs) ∧ SqT K H b zs ∧ xs.length + zs.length ≤ sizeLine ∧ Q .non (upd H l (.lst (xs ++ zs)))
theorem mt_extT : MtR X "list.extend" (rExtT X.K) := by
  intro pins s σ H x vs v us Q I rx rv h
  obtain ⟨l, b, xs, zs, rfl, rfl, hH, hB, hz, q⟩ := h
  cases rx
  obtain ⟨u, rfl, ru⟩ := rv.one
  cases ru
  obtain ⟨z, its, n, r, hl, e⟩ := I.lstM hH
  obtain ⟨its2, r2, ⟨o2, e2, c2, n2, d2⟩, z2⟩ := I.tuple hB
  obtain ⟨cls, dct, dat, slt⟩ := o2
  dsimp only at c2 d2
  subst c2 d2
  have hl2 := r2.length
  have hsz : its.toArray.size + its2.toArray.size ≤ sizeLine := by rw [List.size_toArray, List.size_toArray]; omega
  have hlong : ¬ (!its.toArray.isEmpty && Builtin.List.listTooLong (its.toArray.size + its2.toArray.size)) = true := by
    rw [notLongL hsz, Bool.and_false]
    exact Bool.false_ne_true
  refine call_meets F.slot_list_extend ⟨_, e, rfl⟩ F.entry_list_extend (F.args_list_extend_2 _ _)
    (list_extTupleAny l its.toArray n b its2.toArray n2 _ _ hlong (by rw [List.size_toArray]; omega) (by omega)) ⟨e, e2, ?_⟩
  refine ⟨.non, _, I.lset (its' := its ++ its2) hH e (by simp) (r.append r2) ?_, rfl, q⟩
  rw [List.length_append]
  omega
def rUpd : V → List V → Hp → VK → Prop := fun x vs H Q => ∃ a b kvs more, x = .ref a ∧ vs = [.ref b] ∧ a ≠ b ∧ H a = some (.dK kvs) ∧ H b = some (.dK more) ∧ kvs.length + more.length ≤ sizeLine ∧ Q .non (upd H a (.dK (mergeK kvs more)))
theorem mt_upd : MtR X "dict.update" rUpd := by
  intro pins s σ H x vs v us Q I rx rv h
  obtain ⟨a, b, kvs, more, rfl, rfl, hne, hA, hB, hz, q⟩ := h
  cases rx
  obtain ⟨u, rfl, ru⟩ := rv.one
  cases ru
  obtain ⟨z1, y1, vs1, r1, d1⟩ := dk_of I.hok hA
  obtain ⟨z2, y2, vs2, r2, d2⟩ := dk_of I.hok hB
  have hm := length_mergeK more kvs
  refine call_meetsIn PySem.F.slot_dict_update d1.typeIs PySem.F.entry_dict_update (PySem.F.args_dict_update_2 _ _) (meets_dict_update (mixKind X.prog X.w) a b hne y2)
    ⟨vs1, vs2, d1, d2, by rw [← r1.length, ← r2.length]; exact hz, fun h' dd' _ hs => ?_⟩
  have he : ∃ q, h'.get? a = some q := let ⟨q, _, _, hq, _⟩ := dd'; ⟨q, hq⟩
  exact ⟨.non, _, d_write I (by rw [hA]; exact True.intro) hs he (dk_new (by omega) y1 (r2.merge r1) dd'), rfl, q⟩
end
end Cw
set_option Elab.async false
set_option linter.all false
set_option maxRecDepth 100000
set_option maxHeartbeats 4000000
set_option autoImplicit false
/-! Cw, part K: method calls, starred displays, dict displays -/
namespace Cw
open PySem L2

section
variable {K : PySem.W.Frag} {σ : L2.St} {F F' : FS} {H H' : Hp} {ρ ρ' : Rho}
theorem RepKs.merge : ∀ {more kvs : List (PV × PV)} {ms ks : List (Key × V)}, RepKs K F H more ms → RepKs K F H kvs ks → RepKs K F H (more.foldl (fun acc kv => dPut acc kv.1 kv.2) kvs) (mergeK ks ms)
  | [], _, _, _, h, g => by cases h; exact g
  | (k, d) :: r, _, _, _, ⟨kk, v, t, e, h0, h1, h2⟩, g => by
    subst e
    exact RepKs.merge (more := r) (ms := t) h2 (g.put h0 h1)
/-- an object of nobody is changed -/
theorem Rel.poke (r : Rel K F H ρ σ) {p : Addr} (o : HO) (nf : ¬ F p) (no : ¬ OwnA ρ σ p) : Rel K F (upd H p o) ρ σ := by
  have kp := kp_of (H := H) (o := o) nf
  refine ⟨r.len, fun b f => ?_, fun i s d h m => ?_, fun i s d h m => ?_, r.ap⟩
  · have := r.ft b f
    by_cases c : b = p
    · subst c; rw [upd_same]; simp
    · rw [upd_ne c]; exact this
  · obtain ⟨v, h1, h2⟩ := r.rd i s d h m
    exact ⟨v, h1, h2.keep (fun _ z => z) kp⟩
  · obtain ⟨a, h1, h2⟩ := r.ow i s d h m
    have ne : a ≠ p := fun z => by subst z; exact no ⟨i, s, d, h, m, h1⟩
    exact ⟨a, h1, h2.keep (fun _ z => z) kp h2.1 (by rw [upd_ne ne])⟩
theorem EStep.poke {F0 : FS} {H0 : Hp} {ρ0 : Rho} {p : Addr} (o : HO) (h0 : H0 p = none) (s : EStep F0 H0 ρ0 σ F H ρ) : EStep F0 H0 ρ0 σ F (upd H p o) ρ := by
  refine ⟨⟨fun a u h n => ?_, fun a h => ?_, s.1.ff, s.1.fn, s.1.ow, s.1.pn⟩, s.2⟩
  · have ne : a ≠ p := fun z => by subst z; rw [h0] at h; cases h
    rw [upd_ne ne]; exact s.1.fr a u h n
  · by_cases c : a = p
    · subst c; exact h0
    · rw [upd_ne c] at h; exact s.1.al a h
end

section
variable {X : Cx} {EA : Nat → Addr} {W : WX} {C : CallSem} {σ : L2.St} {F F' : FS} {H H' : Hp} {ρ ρ' : Rho} {a b c : Expr} {ia ib ic : IE} {pos : Pos} {es : List Expr} {ies : List IE}

/-! ### methods of lists and dicts -/
def miT : Mi → String
  | .update => "dict"
  | _ => "list"
def miN : Mi → Str
  | .append => "append"
  | .extend => "extend"
  | .pop => "pop"
  | .update => "update"
def miI : Mi → String
  | .append => "list.append"
  | .extend => "list.extend"
  | .pop => "list.pop"
  | .update => "dict.update"
def rM (K : PySem.W.Frag) : Mi → V → List V → Hp → VK → Prop
  | .append => rAppend
  | .extend => fun x vs H Q => rExtend x vs H Q ∨ rExtT K x vs H Q
  | .pop => rPop
  | .update => rUpd
theorem MtR.or' {id : String} {r r' : V → List V → Hp → VK → Prop} (h : MtR X id r) (h' : MtR X id r') : MtR X id (fun x vs H Q => r x vs H Q ∨ r' x vs H Q) := by
  intro pins s σ H x vs v us Q I rx rv q
  rcases q with q | q
  · exact h pins s σ H x vs v us Q I rx rv q
  · exact h' pins s σ H x vs v us Q I rx rv q
theorem mt_of (mi : Mi) : MtR X (miI mi) (rM X.K mi) := by
  cases mi with
  | append => exact mt_append
  | extend => exact MtR.or' mt_extend mt_extT
  | pop => exact mt_pop
  | update => exact mt_upd
theorem mi_pa (mi : Mi) : PlainAttrs (miT mi) := by cases mi <;> first | exact F.plainAttrs_list | exact F.plainAttrs_dict
theorem mi_slot (mi : Mi) : PySem.Slot (miT mi) (miN mi) (miI mi) := by
  cases mi with
  | append => exact F.slot_list_append
  | extend => exact F.slot_list_extend
  | pop => exact F.slot_list_pop
  | update => exact F.slot_dict_update
theorem mi_ty (mi : Mi) : typeOf (.builtin (miI mi)) = pure (.type "method_descriptor") := by
  cases mi with
  | append => exact F.type_list_append
  | extend => exact F.type_list_extend
  | pop => exact F.type_list_pop
  | update => exact F.type_dict_update
theorem mi_tyV {mi : Mi} {d : PV} {x : Addr} {K : PySem.W.Frag} (o : OwnAt K F H d x) (m : metK mi d = true) : tyV K (miT mi) (.ref x) H := by
  obtain ⟨_, o⟩ := o
  cases d <;> first | (exact o.elim) | skip
  · obtain ⟨vs, h, _⟩ := o
    cases mi <;> first | (cases m; done) | exact .inl ⟨rfl, vs, .inl (.inl h)⟩
  · rename_i k kvs
    cases mi <;> first | (cases m; done) | skip
    rcases o with ⟨_, ks, h, _⟩ | ⟨_, ks, h, _⟩
    · exact .inr (.inr (.inl ⟨rfl, .inl ⟨ks, h⟩⟩))
    · exact .inr (.inr (.inl ⟨rfl, .inr ⟨ks, h⟩⟩))
theorem getLast_ix {α : Type} {xs : List α} {y : α} (h : xs.getLast? = some y) : xs[xs.length - 1]? = some y := by
  rw [List.getLast?_eq_getElem?] at h; exact h
/-- what a method call does to the slot that owns its object -/
theorem met_of {K : PySem.W.Frag} {mi : Mi} {i : Nat} {s : Stt} {d d' : PV} {x : Addr} {ds : List PV} {vs : List V} {fr : Bool} {z : PV} {Q : VK} (r : Rel K F H ρ σ) (h : ρ[i]? = some (some (s, d))) (m : s.mut = true) (hx : σ[i]? = some (some (.ref x)))
    (rv : Reps K F H ds vs) (e : metV mi d ds = some ((fr, z), d')) (q : ∀ F' H' v, Rel K F' H' (ρ.set i (some (s, d'))) σ → EStep F H ρ σ F' H' (ρ.set i (some (s, d'))) → RepS K F' H' H fr z v → Q v H') : rM K mi (.ref x) vs H Q := by
  obtain ⟨x', hx', o⟩ := r.ow i s d h m
  rw [hx] at hx'
  cases hx'
  have o' := o
  obtain ⟨nf, o⟩ := o
  have lx {n : Nat} (h : n ≤ 16777216) : n ≤ sizeLine := len16 h
  unfold metV at e
  split at e
  · rename_i xs y
    split at e
    · rename_i hl
      cases e
      obtain ⟨ws, h1, h2⟩ := o
      obtain ⟨v, t, rfl, rv1, rv2⟩ := rv
      cases rv2
      have new := OwnAt.newL (H' := upd H x (.lst (ws ++ [v]))) nf (kp_of nf) upd_same (h2.app (Reps.one rv1))
      obtain ⟨g1, g2⟩ := r.mutate h m hx new
      exact ⟨x, ws, v, rfl, rfl, h1, by rw [h2.len]; rw [sizeLine_eq]; omega, q _ _ _ g1 g2 rfl⟩
    · cases e
  · rename_i xs ys
    split at e
    · rename_i hl
      cases e
      obtain ⟨ws, h1, h2⟩ := o
      obtain ⟨v, t, rfl, rv1, rv2⟩ := rv
      cases rv2
      obtain ⟨y, zs, rfl, hy, rz⟩ := rv1
      have new := OwnAt.newL (H' := upd H x (.lst (ws ++ zs))) nf (kp_of nf) upd_same (h2.app rz)
      obtain ⟨g1, g2⟩ := r.mutate h m hx new
      exact .inl ⟨x, y, ws, zs, rfl, rfl, h1, hy.2, by rw [h2.len, rz.len]; exact lx hl, q _ _ _ g1 g2 rfl⟩
    · cases e
  · rename_i xs ys
    split at e
    · rename_i hl
      cases e
      obtain ⟨ws, h1, h2⟩ := o
      obtain ⟨v, t, rfl, rv1, rv2⟩ := rv
      cases rv2
      obtain ⟨y, zs, rfl, hy, rz⟩ := rv1
      have new := OwnAt.newL (H' := upd H x (.lst (ws ++ zs))) nf (kp_of nf) upd_same (h2.app rz)
      obtain ⟨g1, g2⟩ := r.mutate h m hx new
      exact .inr ⟨x, y, ws, zs, rfl, rfl, h1, hy.seq, by rw [h2.len, rz.len]; exact lx hl, q _ _ _ g1 g2 rfl⟩
    · cases e
  · rename_i xs
    split at e
    · rename_i y hy
      cases e
      obtain ⟨ws, h1, h2⟩ := o
      cases rv
      obtain ⟨v, hv, rvv⟩ := h2.at (getLast_ix hy)
      have new := OwnAt.newL (H' := upd H x (.lst ws.dropLast)) nf (kp_of nf) upd_same h2.init
      obtain ⟨g1, g2⟩ := r.mutate h m hx new
      exact ⟨x, ws, v, rfl, rfl, h1, by rw [h2.len]; exact hv, q _ _ _ g1 g2 (rvv.keep (fun _ z => z) (kp_of nf))⟩
    · cases e
  · rename_i kvs more
    split at e
    · rename_i hl
      cases e
      obtain ⟨v, t, rfl, rv1, rv2⟩ := rv
      cases rv2
      obtain ⟨y, rfl, fy, hy⟩ := rv1
      rcases o with ⟨_, ks, h1, h2⟩ | ⟨z, _⟩
      · rcases hy with ⟨_, ms, h3, h4⟩ | ⟨z, _⟩
        · have ne : x ≠ y := fun z => by subst z; exact nf fy
          have new : OwnAt K F (upd H x (.dK (mergeK ks ms))) (.dct 0 (more.foldl (fun acc kv => dPut acc kv.1 kv.2) kvs)) x :=
            ⟨nf, .inl ⟨rfl, _, upd_same, RepKs.keep (fun _ z => z) (kp_of nf) _ _ (h4.merge h2)⟩⟩
          obtain ⟨g1, g2⟩ := r.mutate h m hx new
          exact ⟨x, y, ks, ms, rfl, rfl, ne, h1, h3, by rw [h2.len, h4.len]; exact lx hl, q _ _ _ g1 g2 rfl⟩
        · cases z
      · cases z
    · cases e
  · cases e
def rawM (C : CallSem) (mi : Mi) (i : Nat) (es : List IE) (ρ : Rho) : R (Bool × PV) := match ρ[i]? with
      | some (some (s0, d0)) => if s0.mut && metK mi d0 then (evL C es ρ).bind fun ds ρ1 => (match ρ1[i]? with
          | some (some (s, d)) => if s.mut then (match metV mi d ds with
            | some (r, d') => .ok r (ρ1.set i (some (s, d')))
            | none => .bad) else .bad
          | _ => .bad) else .bad
      | _ => .bad
theorem snd_met {mi : Mi} {x : Str} {i : Nat} {p apos : Pos} (hN : X.N[i]? = some x) (hv : Vis X.env.scope x) (hd : (x == ("__debug__" : Str)) = false) (hcd : (x == ("__classdict__" : Str)) = false) (ha : SndL X EA W C es ies)
    (hbase : attributeBase (.Name x p) (miN mi) X.env (eval (.Name x p) X.env) = eval (.Name x p) X.env) (hline : (apos.endLine == pos.line) = true) (hlen : es.length < 28) :
    Snd X EA W C (.Call (.Attribute (.Name x p) (miN mi) apos) es [] pos) (.met mi i ies) := by
  have base := pe_var (X := X) (pos := p) hN hv hd hcd
  have key : ∀ {σ : L2.St} {H : Hp} {Q : VK}, tRaw X.K EA W (rawM C mi i ies) σ H Q → ∃ v, σ[i]? = some (some v) ∧ tyV X.K (miT mi) v H ∧ tL X.K EA W C ies σ H fun vs H2 => rM X.K mi v vs H2 Q := by
    intro σ H Q h
    obtain ⟨F, ρ, r, h⟩ := h
    unfold rawM at h
    split at h
    · rename_i s0 d0 e0
      split at h
      · rename_i c
        rw [Bool.and_eq_true] at c
        obtain ⟨y, hy, oy⟩ := r.ow i s0 d0 e0 c.1
        refine ⟨_, hy, mi_tyV oy c.2, F, ρ, r, h.bind.mono fun ds F1 H1 ρ1 g1 s1 h1 vs rvs => ?_⟩
        replace h1 := h1 F1 g1 s1
        split at h1
        · rename_i s d e1
          split at h1
          · rename_i m
            split at h1
            · rename_i w d' em
              obtain ⟨fr, z⟩ := w
              exact met_of g1 e1 m hy rvs em fun F' H' v g2 s2 rv => h1 F' H' g2 s2 v (rv.back s1.1.al)
            · exact h1.elim
          · exact h1.elim
        · exact h1.elim
      · exact h.elim
    · exact h.elim
  have hp : PE X (.Call (.Attribute (.Name x p) (miN mi) apos) es [] pos) (tRaw X.K EA W (rawM C mi i ies)) := by
    cases es with
    | nil =>
      have e2 : ies = [] := by have := ha.len; cases ies with | nil => rfl | cons _ _ => cases this
      subst e2
      refine PE.imp' (pe_bm0 (mi_pa mi) (mi_slot mi) (mi_ty mi) (mt_of mi) base hbase hline) fun σ H Q h => ?_
      obtain ⟨v, e1, e2, h⟩ := key h
      obtain ⟨F, ρ, r, h⟩ := h
      exact ⟨v, e1, e2, h.here r [] rfl⟩
    | cons e rest =>
      have hs : starEach (e :: rest) X.env = (false, eval e X.env) :: starEach rest X.env := by cases ha with | cons _ n _ => exact n _ _
      have hrest : (backTo pos (starEach rest X.env)).any (·.1) = false := by cases ha with | cons _ _ t => exact t.plain _ _
      have hall := ha.plain pos X.env
      have hfew : ((backTo pos (starEach (e :: rest) X.env)).all (fun x => !x.1) && (backToKw pos (keywordEach [] X.env)).all (fun x => x.1.isSome)
          && decide ((e :: rest).length + ([] : List Keyword).length + (if ([] : List Keyword).isEmpty then 0 else 1) < 30)) = true := by
        rw [Bool.and_eq_true, Bool.and_eq_true]
        refine ⟨⟨?_, rfl⟩, decide_eq_true (by show (e :: rest).length + 0 + 0 < 30; omega)⟩
        rw [List.all_eq_not_any_not]
        simp only [Bool.not_not]
        rw [hall]; rfl
      refine PE.imp' (pe_bm (mi_pa mi) (mi_slot mi) (mi_ty mi) (mt_of mi) base ha.pa hbase hfew hline hs hrest) fun σ H Q h => ?_
      obtain ⟨v, e1, e2, h⟩ := key h
      exact ⟨v, e1, e2, h⟩
  exact Snd.of (raw := rawM C mi i ies) (fun m ρ => rfl) (fun _ z => nomatch z) (fun _ _ => rfl) hp

/-! ### (*e, ..) -/
theorem snd_tupS {k : Nat} {p : Pos} (he : Snd X EA W C a ia) (h : SndL X EA W C es ies) : Snd X EA W C (.Tuple (.Starred a p :: es) k pos) (.tupS ia ies) := by
  refine Snd.of (raw := fun ρ => (pk ia (ev C false ia ρ) ρ).bind fun fd ρ1 => match fd.2 with
      | .tup xs => (evL C ies ρ1).bind fun ds ρ2 => lenOk (xs ++ ds) ρ2 (.ok (false, .tup (xs ++ ds)) ρ2)
      | _ => .bad) (fun m ρ => rfl) (fun _ z => nomatch z) (fun _ _ => rfl) (PE.imp' (pe_tup (StX.pa_star he.p h.pa)) fun σ H Q h => ?_)
  obtain ⟨F, ρ, r, h⟩ := h
  refine ⟨F, ρ, r, h.bind.mono fun x F1 H1 ρ1 g1 s1 h1 v pk1 p1 => ?_⟩
  replace h1 := h1 F1 g1 s1
  obtain ⟨fx, x⟩ := x
  split at h1
  · rename_i xs e
    simp only at e
    subst e
    rcases p1 with p1 | ⟨_, _, _, z⟩
    · obtain ⟨y, ws, rfl, hy, rw1⟩ := p1
      refine ⟨y, ws, rfl, .inl hy.seq, F1, ρ1, g1, h1.bind.mono fun ds F2 H2 ρ2 g2 s2 h2 vs rvs => ?_⟩
      obtain ⟨hl, h3⟩ := (h2 F2 g2 s2).lenOk
      have rr := (rw1.step g1 s2.1).app rvs
      exact ⟨by rw [rr.len]; exact hl, fun p hp => (h3.res1 fun q n => s1.1.al q (s2.1.al q n)).tup g2 hp rr⟩
    · exact z.elim
  · exact h1.elim

/-! ### dict displays -/
inductive SndD (X : Cx) (EA : Nat → Addr) (W : WX) (C : CallSem) : List (Option Expr) → List Expr → List IE → Prop
  | nil : SndD X EA W C [] [] []
  | cons {k v : Expr} {ik iv : IE} {ks : List (Option Expr)} {vs : List Expr} {ies : List IE} : Snd X EA W C k ik → Snd X EA W C v iv → SndD X EA W C ks vs ies → SndD X EA W C (some k :: ks) (v :: vs) (ik :: iv :: ies)
def flatP : List (V × V) → List V
  | [] => []
  | (x, y) :: r => x :: y :: flatP r
def trsOf (K : PySem.W.Frag) (EA : Nat → Addr) (W : WX) (C : CallSem) : List IE → List (TE × TE)
  | ik :: iv :: r => (tRaw K EA W (ev C false ik), tRaw K EA W (ev C false iv)) :: trsOf K EA W C r
  | _ => []
theorem SndD.pps {ks : List (Option Expr)} {vs : List Expr} (h : SndD X EA W C ks vs ies) : PPs X pos ks vs (trsOf X.K EA W C ies) := by
  induction h with
  | nil => exact pps_nil
  | cons hk hv _ ih => exact pps_cons hk.v hv.v ih
theorem SndD.shape {ks : List (Option Expr)} {vs : List Expr} (h : SndD X EA W C ks vs ies) : ks.all (·.isSome) = true ∧ ks.length = vs.length := by
  induction h with
  | nil => exact ⟨rfl, rfl⟩
  | cons hk hv _ ih => exact ⟨by rw [List.all_cons, ih.1]; rfl, by rw [List.length_cons, List.length_cons, ih.2]⟩
theorem SndD.pairs {ks : List (Option Expr)} {vs : List Expr} (h : SndD X EA W C ks vs ies) : ∀ {F : FS} {H : Hp} {ρ : Rho} {Q : List (V × V) → Hp → Prop}, Rel X.K F H ρ σ →
    (post X.K EA W σ F H ρ (evL C ies ρ) fun ds F' H' _ => ∀ ps, Reps X.K F' H' ds (flatP ps) → Q ps H') → tPairs (trsOf X.K EA W C ies) σ H Q := by
  induction h with
  | nil => intro F H ρ Q r h; exact h.here r [] rfl
  | cons hk hv _ ih =>
    intro F H ρ Q r h
    simp only [evL] at h
    refine ⟨F, ρ, r, h.bind.mono fun x F1 H1 ρ1 g1 s1 h1 v rv => ?_⟩
    obtain ⟨G, rG, sG, rep, _⟩ := share r s1 g1 rv
    refine ⟨G, ρ1, rG, (h1 G rG sG).bind.bind.mono fun y F2 H2 ρ2 g2 s2 h2 w rw' => ?_⟩
    obtain ⟨G2, rG2, sG2, rep2, _⟩ := share rG s2 g2 rw'
    refine ih rG2 ?_
    refine (h2 G2 rG2 sG2).bind.mono fun ds F3 H3 ρ3 g3 s3 h3 ps rps => ?_
    replace h3 := (h3 F3 g3 s3).here g3
    exact (h3 F3 g3 (sG2.trans s3)).here g3 ((v, w) :: ps) ⟨v, w :: flatP ps, rfl, rep.step rG (sG2.trans s3).1, w, flatP ps, rfl, rep2.step rG2 s3.1, rps⟩

theorem post.start {K : PySem.W.Frag} {α : Type} {r : R α} {φ : α → FS → Hp → Rho → Prop} (h : post K EA W σ F H ρ r φ) (s : EStep F H ρ σ F' H' ρ) : post K EA W σ F' H' ρ r φ := by
  cases r with
  | ok a ρ1 => exact fun F2 H2 g2 s2 => h F2 H2 g2 (s.trans s2)
  | exc c x ρ1 => exact fun F2 H2 cls dd g2 s2 => h F2 H2 cls dd g2 (s.trans s2)
  | bad => exact h
theorem disp_of {K : PySem.W.Frag} : ∀ {ps : List (V × V)} {ds : List PV} {kvs : List (PV × PV)}, dspV ds = some kvs → Reps K F H ds (flatP ps) → (∀ kv ∈ kvs, keyFit 0 kv.1 = true) → ∃ ks : List (Key × V), ps = ks.map (fun kv => (kV kv.1, kv.2)) ∧ RepKs K F H kvs ks
  | [], ds, kvs, e, h, _ => by
    have hl := h.len
    cases ds with
    | nil => cases e; exact ⟨[], rfl, rfl⟩
    | cons _ _ => cases hl
  | (x, y) :: r, ds, kvs, e, h, hk => by
    have hl := h.len
    match ds, e, h, hl with
    | [], _, _, hl => cases hl
    | [_], _, _, hl => simp [flatP] at hl
    | k :: v :: ds', e0, ⟨x', t, e1, h1, y', t', e2, h2, h3⟩, _ =>
      cases e1
      cases e2
      have e4 : (dspV ds').map (fun t => (k, v) :: t) = some kvs := e0
      rw [Option.map_eq_some_iff] at e4
      obtain ⟨kvs', e5, e3⟩ := e4
      subst e3
      obtain ⟨ks, hp, hr⟩ := disp_of e5 h3 fun kv hm => hk kv (List.mem_cons_of_mem _ hm)
      have hf := hk (k, v) (List.mem_cons_self ..)
      cases ek : keyOf k with
      | none => simp [keyFit, ek] at hf
      | some kk =>
        have hx := keyOf_rep ek (.inl h1)
        exact ⟨(kk, y) :: ks, by rw [hp, hx]; rfl, kk, y, ks, rfl, ek, h2, hr⟩
def rawD (C : CallSem) (k : Nat) (es : List IE) (ρ : Rho) : R (Bool × PV) := (evL C es ρ).bind fun ds ρ1 => match dspV ds with
      | some kvs => if kvs.length ≤ 15 ∧ (∀ kv ∈ kvs, keyFit 0 kv.1 = true) ∧ (k = 0 ∨ (k = 1 ∧ kvs = [])) then .ok (true, .dct k (kvs.foldl (fun acc kv => dPut acc kv.1 kv.2) [])) ρ1 else .bad
      | none => .bad
theorem snd_dspK : Snd X EA W C (.Dict [] [] pos) (.dsp 0 []) := by
  refine Snd.of (raw := rawD C 0 []) (fun m ρ => rfl) (fun _ z => nomatch z) (fun _ _ => rfl) (PE.imp' pe_dnewK fun σ H Q h => ?_)
  obtain ⟨F, ρ, r, h⟩ := h
  intro p hp
  simp only [rawD, evL, dspV, R.bind_ok] at h
  rw [if_pos (⟨by decide, (fun kv hm => nomatch hm), Or.inl trivial⟩)] at h
  exact h F (upd H p (.dK [])) (r.lay hp _) (EStep.lay r hp _) _ ⟨p, rfl, ⟨fun f => r.ft p f hp, .inl ⟨rfl, [], upd_same, rfl⟩⟩, hp⟩
theorem snd_dspT : Snd X EA W C (.Dict [] [] pos) (.dsp 1 []) := by
  refine Snd.of (raw := rawD C 1 []) (fun m ρ => rfl) (fun _ z => nomatch z) (fun _ _ => rfl) (PE.imp' pe_dnewT fun σ H Q h => ?_)
  obtain ⟨F, ρ, r, h⟩ := h
  intro p hp
  simp only [rawD, evL, dspV, R.bind_ok] at h
  rw [if_pos (⟨by decide, (fun kv hm => nomatch hm), Or.inr ⟨trivial, trivial⟩⟩)] at h
  exact h F (upd H p (.dT [])) (r.lay hp _) (EStep.lay r hp _) _ ⟨p, rfl, ⟨fun f => r.ft p f hp, .inr ⟨rfl, [], upd_same, rfl⟩⟩, hp⟩
theorem snd_dsp {ks : List (Option Expr)} {vs : List Expr} (h : SndD X EA W C ks vs ies) (h0 : ks ≠ []) (h15 : ks.length ≤ 15) : Snd X EA W C (.Dict ks vs pos) (.dsp 0 ies) := by
  refine Snd.of (raw := rawD C 0 ies) (fun m ρ => rfl) (fun _ z => nomatch z) (fun _ _ => rfl) (PE.imp' (pe_disp (h.pps (pos := pos)) h.shape.1 h.shape.2 h0 h15) fun σ H Q hh => ?_)
  obtain ⟨F, ρ, r, hh⟩ := hh
  intro p hp
  have rl := r.lay hp (.dK [])
  have sl := EStep.lay r hp (.dK [])
  have np : ¬ OwnA ρ σ p := fun o => (r.notF o).2 hp
  refine h.pairs rl ?_
  cases ee : evL C ies ρ with
  | exc c x ρ1 => rw [rawD, ee] at hh; exact hh.start sl
  | bad => rw [rawD, ee] at hh; exact hh
  | ok ds ρ1 =>
    intro F1 H1 g1 s1 ps rps
    have hp1 : H1 p = some (.dK []) := s1.1.fr p _ upd_same np
    simp only [rawD, ee, R.bind_ok] at hh
    split at hh
    · rename_i kvs ek
      split at hh
      · rename_i c
        obtain ⟨kk, e1, e2⟩ := disp_of ek rps c.2.1
        have nf : ¬ F1 p := fun f => (s1.1.fn p f).elim (fun z => r.ft p z hp) fun z => z.elim (fun z => by rw [upd_same] at z; cases z) np
        have no : ¬ OwnA ρ1 σ p := fun o => np (s1.owns o)
        refine ⟨hp1, kk, e1, by rw [e2.len]; exact c.1, ?_⟩
        refine hh F1 _ (g1.poke (.dK (mergeK [] kk)) nf no) (EStep.poke _ hp (sl.trans s1)) _ ⟨p, rfl, ⟨nf, .inl ⟨rfl, _, upd_same, ?_⟩⟩, hp⟩
        exact RepKs.keep (fun _ z => z) (kp_of nf) _ _ (e2.merge rfl)
      · exact hh.elim
    · exact hh.elim
end
end Cw
set_option Elab.async false
set_option linter.all false
set_option maxRecDepth 100000
set_option maxHeartbeats 4000000
set_option autoImplicit false
/-! Cw, part L: calls of defs -/
namespace Cw
open PySem L2

section
variable {K : PySem.W.Frag} {σ : L2.St} {F F' : FS} {H H' : Hp} {ρ ρ' : Rho}
theorem TokR.len : ∀ {ts : List ATok} {vs : List V}, TokR K F H σ ts vs → vs.length = ts.length
  | [], _, h => by cases h; rfl
  | .val d :: ts, _, ⟨v, w, e, h1, h2⟩ => by rw [e, List.length_cons, List.length_cons, TokR.len h2]
  | .slot i :: ts, _, ⟨v, w, e, h1, h2⟩ => by rw [e, List.length_cons, List.length_cons, TokR.len h2]
theorem TokR.at : ∀ {ts : List ATok} {vs : List V} {p : Nat} {t : ATok}, TokR K F H σ ts vs → ts[p]? = some t → ∃ v, vs[p]? = some v ∧ Tok1 K F H σ t v
  | [], _, _, _, _, e => by simp at e
  | .val d :: ts, _, 0, t, ⟨v, w, e, h1, h2⟩, q => by simp at q; subst q; exact ⟨v, by rw [e]; rfl, h1⟩
  | .slot i :: ts, _, 0, t, ⟨v, w, e, h1, h2⟩, q => by simp at q; subst q; exact ⟨v, by rw [e]; rfl, h1⟩
  | .val d :: ts, _, p + 1, t, ⟨v, w, e, h1, h2⟩, q => by
    obtain ⟨u, h3, h4⟩ := TokR.at (p := p) h2 (by simpa using q)
    exact ⟨u, by rw [e]; simpa using h3, h4⟩
  | .slot i :: ts, _, p + 1, t, ⟨v, w, e, h1, h2⟩, q => by
    obtain ⟨u, h3, h4⟩ := TokR.at (p := p) h2 (by simpa using q)
    exact ⟨u, by rw [e]; simpa using h3, h4⟩
theorem argSlots_at : ∀ {ts : List ATok} {as : List Slot}, argSlots ρ ts = some as → as.length = ts.length ∧ ∀ (p : Nat) a, as[p]? = some a → ∃ t, ts[p]? = some t ∧ argSlot ρ t = some a
  | [], as, h => by cases h; exact ⟨rfl, fun p a q => by simp at q⟩
  | t :: ts, as, h => by
    unfold argSlots at h
    split at h
    · rename_i a as' e1 e2
      cases h
      obtain ⟨h1, h2⟩ := argSlots_at e2
      refine ⟨by rw [List.length_cons, List.length_cons, h1], fun p b q => ?_⟩
      cases p with
      | zero => simp at q; subst q; exact ⟨t, rfl, e1⟩
      | succ p => exact h2 p b (by simpa using q)
    · cases h
theorem slotIx_mem : ∀ {ts : List ATok} {i p : Nat}, ts[p]? = some (.slot i) → i ∈ slotIxs ts
  | [], _, _, h => by simp at h
  | .val d :: ts, i, 0, h => by simp at h
  | .slot j :: ts, i, 0, h => by simp at h; subst h; exact List.mem_cons_self ..
  | .val d :: ts, i, p + 1, h => slotIx_mem (ts := ts) (p := p) (by simpa using h)
  | .slot j :: ts, i, p + 1, h => List.mem_cons_of_mem _ (slotIx_mem (ts := ts) (p := p) (by simpa using h))
theorem slotIx_at : ∀ {ts : List ATok} {i : Nat}, i ∈ slotIxs ts → ∃ p : Nat, ts[p]? = some (.slot i)
  | [], _, h => nomatch h
  | .val d :: ts, i, h => by obtain ⟨p, q⟩ := slotIx_at (ts := ts) h; exact ⟨p + 1, by simpa using q⟩
  | .slot j :: ts, i, h => by
    rcases List.mem_cons.mp h with h | h
    · subst h; exact ⟨0, rfl⟩
    · obtain ⟨p, q⟩ := slotIx_at (ts := ts) h; exact ⟨p + 1, by simpa using q⟩
theorem nodupB_cons {i : Nat} {r : List Nat} (h : nodupB (i :: r) = true) : i ∉ r ∧ nodupB r = true := by
  unfold nodupB at h
  rw [Bool.and_eq_true] at h
  refine ⟨fun m => ?_, h.2⟩
  have := List.contains_iff_mem.mpr m
  rw [this] at h
  exact nomatch h.1
theorem slotIx_inj : ∀ {ts : List ATok} {i p q : Nat}, nodupB (slotIxs ts) = true → ts[p]? = some (.slot i) → ts[q]? = some (.slot i) → p = q
  | [], _, _, _, _, h, _ => by simp at h
  | .val d :: ts, i, 0, _, n, h, _ => by simp at h
  | .val d :: ts, i, _ + 1, 0, n, _, h => by simp at h
  | .val d :: ts, i, p + 1, q + 1, n, h, h' => by rw [slotIx_inj (ts := ts) (p := p) (q := q) n (by simpa using h) (by simpa using h')]
  | .slot j :: ts, i, 0, 0, n, h, h' => rfl
  | .slot j :: ts, i, 0, q + 1, n, h, h' => by
    simp at h; subst h
    exact absurd (slotIx_mem (ts := ts) (p := q) (by simpa using h')) (nodupB_cons n).1
  | .slot j :: ts, i, p + 1, 0, n, h, h' => by
    simp at h'; subst h'
    exact absurd (slotIx_mem (ts := ts) (p := p) (by simpa using h)) (nodupB_cons n).1
  | .slot j :: ts, i, p + 1, q + 1, n, h, h' => by rw [slotIx_inj (ts := ts) (p := p) (q := q) (nodupB_cons n).2 (by simpa using h) (by simpa using h')]
theorem argSlot_val {d : PV} {a : Slot} (h : argSlot ρ (.val d) = some a) : a = some (.sh, d) := by cases h; rfl
theorem argSlot_slot {i : Nat} {a : Slot} (h : argSlot ρ (.slot i) = some a) : ∃ s d, ρ[i]? = some (some (s, d)) ∧ s ≠ .lnt ∧ a = some (if s.mut then .par else .sh, d) := by
  simp only [argSlot] at h
  split at h
  · cases h
  · rename_i s d hne e
    cases h
    exact ⟨s, d, e, hne, rfl⟩
  · cases h
/-- an owned argument is an owned slot -/
theorem arg_own {ts : List ATok} {as : List Slot} {vs : List V} (tv : TokR K F H σ ts vs) (ea : argSlots ρ ts = some as) {p : Nat} {s : Stt} {d : PV} (h : as[p]? = some (some (s, d))) (m : s.mut = true) :
    ∃ (i : Nat) (s0 : Stt), ts[p]? = some (.slot i) ∧ ρ[i]? = some (some (s0, d)) ∧ s0.mut = true ∧ s = .par ∧ ∃ v, vs[p]? = some v ∧ σ[i]? = some (some v) := by
  obtain ⟨_, h2⟩ := argSlots_at ea
  obtain ⟨t, e1, e2⟩ := h2 p _ h
  obtain ⟨v, e3, e4⟩ := tv.at e1
  cases t with
  | val d' => cases argSlot_val e2; cases m
  | slot i =>
    obtain ⟨s0, d0, e5, _, e6⟩ := argSlot_slot e2
    cases m0 : s0.mut with
    | true => rw [m0] at e6; cases e6; exact ⟨i, s0, e1, e5, m0, rfl, v, e3, e4⟩
    | false => rw [m0] at e6; cases e6; cases m
theorem some_at {vs : List V} {p : Nat} {v : V} (h : vs[p]? = some v) : (vs.map some)[p]? = some (some v) := by rw [List.getElem?_map, h]; rfl
theorem arg_rel {ts : List ATok} {as : List Slot} {vs : List V} (r : Rel K F H ρ σ) (tv : TokR K F H σ ts vs) (ea : argSlots ρ ts = some as) (nd : nodupB (slotIxs ts) = true) : Rel K F H as (vs.map some) := by
  obtain ⟨h1, h2⟩ := argSlots_at ea
  refine ⟨by rw [List.length_map, tv.len, h1], r.ft, fun p s d h m => ?_, fun p s d h m => ?_, fun p q s d s' d' a h m h' m' hv hv' => ?_⟩
  · obtain ⟨t, e1, e2⟩ := h2 p _ h
    obtain ⟨v, e3, e4⟩ := tv.at e1
    refine ⟨v, some_at e3, ?_⟩
    cases t with
    | val d' => cases argSlot_val e2; exact e4
    | slot i =>
      obtain ⟨s0, d0, e5, hl, e6⟩ := argSlot_slot e2
      cases m0 : s0.mut with
      | true => rw [m0] at e6; cases e6; cases m
      | false =>
        rw [m0] at e6; cases e6
        have hs : s0.shr = true := by cases s0 <;> first | rfl | (cases m0; done) | exact absurd rfl hl
        obtain ⟨w, e7, e8⟩ := r.rd i _ _ e5 hs
        have e4 : σ[i]? = some (some v) := e4
        rw [e4] at e7; cases e7
        exact e8
  · obtain ⟨i, s0, e1, e2, m0, _, v, e3, e4⟩ := arg_own tv ea h m
    obtain ⟨a, e5, e6⟩ := r.ow i _ _ e2 m0
    rw [e4] at e5; cases e5
    exact ⟨a, some_at e3, e6⟩
  · obtain ⟨i, s0, e1, e2, m0, _, v, e3, e4⟩ := arg_own tv ea h m
    obtain ⟨j, s1, f1, f2, n0, _, w, f3, f4⟩ := arg_own tv ea h' m'
    rw [some_at e3] at hv; cases hv
    rw [some_at f3] at hv'; cases hv'
    have : i = j := r.ap i j _ _ _ _ a e2 m0 f2 n0 e4 f4
    subst this
    exact slotIx_inj nd e1 f1
theorem arg_owns {ts : List ATok} {as : List Slot} {vs : List V} (tv : TokR K F H σ ts vs) (ea : argSlots ρ ts = some as) {a : Addr} (h : OwnA as (vs.map some) a) : OwnA ρ σ a ∧ ∃ (i p : Nat), ts[p]? = some (ATok.slot i) ∧ σ[i]? = some (some (V.ref a)) ∧ ∃ s d, ρ[i]? = some (some (s, d)) ∧ s.mut = true := by
  obtain ⟨p, s, d, h1, m, h3⟩ := h
  obtain ⟨i, s0, e1, e2, m0, _, v, e3, e4⟩ := arg_own tv ea h1 m
  rw [some_at e3] at h3; cases h3
  exact ⟨⟨i, s0, d, e2, m0, e4⟩, i, p, e1, e4, s0, d, e2, m0⟩

/-! ### what stands behind the call -/
theorem putBack1_ne {i j : Nat} {o : Slot} (h : i ≠ j) : (putBack1 i o ρ)[j]? = ρ[j]? := by
  unfold putBack1
  split
  · split
    · split <;> exact set_ne h
    · rfl
  · rfl
theorem putBack1_len {i : Nat} {o : Slot} : (putBack1 i o ρ).length = ρ.length := by
  unfold putBack1
  split
  · split
    · split <;> exact List.length_set
    · rfl
  · rfl
theorem putBack_len : ∀ (ts : List ATok) (outs : List Slot) (ρ : Rho), (putBack ts outs ρ).length = ρ.length
  | [], _, _ => rfl
  | .val _ :: ts, [], ρ => rfl
  | .slot _ :: ts, [], ρ => rfl
  | .val _ :: ts, o :: os, ρ => putBack_len ts os ρ
  | .slot i :: ts, o :: os, ρ => (putBack_len ts os _).trans putBack1_len
theorem putBack_ne : ∀ (ts : List ATok) (outs : List Slot) (ρ : Rho) {j : Nat}, j ∉ slotIxs ts → (putBack ts outs ρ)[j]? = ρ[j]?
  | [], _, _, _, _ => rfl
  | .val _ :: ts, [], ρ, _, _ => rfl
  | .slot _ :: ts, [], ρ, _, _ => rfl
  | .val _ :: ts, o :: os, ρ, j, h => putBack_ne ts os ρ h
  | .slot i :: ts, o :: os, ρ, j, h => by
    have h1 : i ≠ j := fun z => h (by subst z; exact List.mem_cons_self ..)
    exact (putBack_ne ts os _ fun z => h (List.mem_cons_of_mem _ z)).trans (putBack1_ne h1)
/-- what is put at an owner -/
def backAt (s : Stt) : Slot → Slot
  | some (.par, d) => some (s, d)
  | some (.frp, d) => some (s.frz, d)
  | _ => none
theorem putBack1_at {i : Nat} {o : Slot} {s : Stt} {d : PV} (h : ρ[i]? = some (some (s, d))) (m : s.mut = true) : (putBack1 i o ρ)[i]? = some (backAt s o) := by
  unfold putBack1
  rw [h]
  dsimp only
  rw [if_pos m]
  unfold backAt
  split
  · exact set_at h
  · exact set_at h
  · rename_i n1 n2
    first
      | exact set_at h
      | (split
         · exact absurd rfl (n1 _)
         · exact absurd rfl (n2 _)
         · exact set_at h)
theorem putBack1_still {i : Nat} {o : Slot} {s : Stt} {d : PV} (h : ρ[i]? = some (some (s, d))) (m : s.mut = false) : putBack1 i o ρ = ρ := by
  unfold putBack1
  rw [h]
  dsimp only
  rw [if_neg (by rw [m]; exact Bool.false_ne_true)]
theorem putBack_at : ∀ (ts : List ATok) (outs : List Slot) (ρ : Rho), nodupB (slotIxs ts) = true → ∀ {p i : Nat} {o : Slot}, ts[p]? = some (.slot i) → outs[p]? = some o → ∀ {s : Stt} {d : PV}, ρ[i]? = some (some (s, d)) → (putBack ts outs ρ)[i]? = if s.mut = true then some (backAt s o) else ρ[i]?
  | [], _, _, _, _, _, _, h, _ => by simp at h
  | .val _ :: ts, [], ρ, _, _, _, _, _, h => by simp at h
  | .slot _ :: ts, [], ρ, _, _, _, _, _, h => by simp at h
  | .val _ :: ts, o :: os, ρ, n, 0, i, _, h, h' => by simp at h
  | .val _ :: ts, o :: os, ρ, n, p + 1, i, _, h, h' => fun e => putBack_at ts os ρ n (p := p) (by simpa using h) (by simpa using h') e
  | .slot j :: ts, o :: os, ρ, n, 0, i, o', h, h' => fun e => by
    simp at h h'
    subst h h'
    have n1 := (nodupB_cons n).1
    show (putBack ts os (putBack1 j o ρ))[j]? = _
    rw [putBack_ne ts os _ n1]
    split
    · rename_i m; exact putBack1_at e m
    · rename_i m; rw [putBack1_still e (by simpa using m)]
  | .slot j :: ts, o :: os, ρ, n, p + 1, i, o', h, h' => fun e => by
    have h1 : ts[p]? = some (.slot i) := by simpa using h
    have ne : j ≠ i := fun z => by subst z; exact (nodupB_cons n).1 (slotIx_mem h1)
    show (putBack ts os (putBack1 j o ρ))[i]? = _
    have := putBack_at ts os (putBack1 j o ρ) (nodupB_cons n).2 (p := p) h1 (by simpa using h') (by rw [putBack1_ne ne]; exact e)
    rw [this, putBack1_ne ne]
theorem back_rel {ts : List ATok} {as outs : List Slot} {vs : List V} (r : Rel K F H ρ σ) (tv : TokR K F H σ ts vs) (ea : argSlots ρ ts = some as) (nd : nodupB (slotIxs ts) = true) (ro : Rel K F' H' outs (vs.map some))
    (so : Step F H as (vs.map some) F' H' outs (vs.map some)) : Rel K F' H' (putBack ts outs ρ) σ ∧ EStep F H ρ σ F' H' (putBack ts outs ρ) := by
  have ra := arg_rel r tv ea nd
  have kp := so.keep ra
  have lo : outs.length = ts.length := by rw [ro.len, List.length_map, tv.len]
  obtain ⟨la, ha⟩ := argSlots_at ea
  -- what stands at j behind
  have at_ : ∀ {j : Nat} {s : Stt} {d : PV}, (putBack ts outs ρ)[j]? = some (some (s, d)) →
      (ρ[j]? = some (some (s, d)) ∧ (s.mut = true → j ∉ slotIxs ts)) ∨ ∃ (p : Nat) (o : Stt × PV) (s0 : Stt) (d0 : PV) (v : V), ts[p]? = some (.slot j) ∧ outs[p]? = some (some o) ∧ ρ[j]? = some (some (s0, d0)) ∧ s0.mut = true ∧ vs[p]? = some v ∧ σ[j]? = some (some v) ∧ o.2 = d ∧ ((o.1 = .par ∧ s = s0) ∨ (o.1 = .frp ∧ s = s0.frz)) := by
    intro j s d h
    by_cases c : j ∈ slotIxs ts
    · obtain ⟨p, hp⟩ := slotIx_at c
      have hp' : p < ts.length := by
        rcases Nat.lt_or_ge p ts.length with z | z
        · exact z
        · rw [List.getElem?_eq_none z] at hp; cases hp
      have ho : ∃ o, outs[p]? = some o := ⟨outs[p]'(by omega), List.getElem?_eq_getElem _⟩
      have haj : ∃ a, as[p]? = some a := ⟨as[p]'(by omega), List.getElem?_eq_getElem _⟩
      obtain ⟨o, ho⟩ := ho
      obtain ⟨a, haj⟩ := haj
      obtain ⟨t, e1, e2⟩ := ha p a haj
      rw [hp] at e1; cases e1
      obtain ⟨s0, d0, e3, hl, e4⟩ := argSlot_slot e2
      obtain ⟨v, e5, e6⟩ := tv.at hp
      have q := putBack_at ts outs ρ nd hp ho e3
      rw [h] at q
      split at q
      · rename_i m
        unfold backAt at q
        split at q
        · cases q; exact .inr ⟨p, _, _, d0, v, hp, ho, e3, m, e5, e6, rfl, .inl ⟨rfl, rfl⟩⟩
        · cases q; exact .inr ⟨p, _, _, d0, v, hp, ho, e3, m, e5, e6, rfl, .inr ⟨rfl, rfl⟩⟩
        · cases q
      · rename_i m
        rw [e3] at q
        cases q
        exact .inl ⟨e3, fun z => absurd z m⟩
    · rw [putBack_ne ts outs ρ c] at h
      exact .inl ⟨h, fun _ => c⟩
  have frzN : ∀ s : Stt, s.frz.mut = false := fun s => by cases s <;> rfl
  -- owners behind were owners
  have own0 : ∀ {j : Nat} {s : Stt} {d : PV}, (putBack ts outs ρ)[j]? = some (some (s, d)) → s.mut = true → ∃ d0, ρ[j]? = some (some (s, d0)) := fun {j s d} h m => by
    rcases at_ h with ⟨h1, _⟩ | ⟨p, o, s0, d0, v, e1, e2, e3, m0, e5, e6, ed, ⟨_, es⟩ | ⟨_, es⟩⟩
    · exact ⟨d, h1⟩
    · subst es; exact ⟨d0, e3⟩
    · subst es; rw [frzN] at m; cases m
  refine ⟨⟨by rw [putBack_len]; exact r.len, ro.ft, fun j s d h m => ?_, fun j s d h m => ?_, fun j k s d s' d' a h m h' m' hv hv' => ?_⟩, ⟨⟨fun a u e n => ?_, so.al, so.ff, fun a f => ?_, fun a q => ?_, fun j s d h pn => ?_⟩, fun j s d h m => own0 h m⟩⟩
  · rcases at_ h with ⟨h1, _⟩ | ⟨p, ⟨ot, od⟩, s0, d0, v, e1, e2, e3, m0, e5, e6, ed, ⟨eo, es⟩ | ⟨eo, es⟩⟩
    · obtain ⟨v, q1, q2⟩ := r.rd j s d h1 m
      exact ⟨v, q1, q2.keep so.ff kp⟩
    · subst es; cases s <;> first | (cases m; done) | (cases m0; done)
    · dsimp only at ed eo
      subst ed eo
      obtain ⟨w, q1, q2⟩ := ro.rd p _ _ e2 rfl
      rw [some_at e5] at q1; cases q1
      exact ⟨v, e6, q2⟩
  · rcases at_ h with ⟨h1, hn⟩ | ⟨p, ⟨ot, od⟩, s0, d0, v, e1, e2, e3, m0, e5, e6, ed, ⟨eo, es⟩ | ⟨eo, es⟩⟩
    · obtain ⟨a, q1, q2⟩ := r.ow j s d h1 m
      refine ⟨a, q1, q2.step ra so fun q => ?_⟩
      obtain ⟨_, i, p, f1, f2, s1, d1, f3, f4⟩ := arg_owns tv ea q
      have : j = i := r.ap j i _ _ _ _ a h1 m f3 f4 q1 f2
      subst this
      exact hn m (slotIx_mem f1)
    · dsimp only at ed eo
      subst ed eo
      obtain ⟨a, q1, q2⟩ := ro.ow p _ _ e2 rfl
      rw [some_at e5] at q1; cases q1
      exact ⟨a, e6, q2⟩
    · subst es; rw [frzN] at m; cases m
  · obtain ⟨d0, h0⟩ := own0 h m
    obtain ⟨d1, h1⟩ := own0 h' m'
    exact r.ap j k _ _ _ _ a h0 m h1 m' hv hv'
  · exact so.fr a u e fun q => n (arg_owns tv ea q).1
  · exact (so.fn a f).elim .inl fun z => z.elim (fun z => .inr (.inl z)) fun z => .inr (.inr (arg_owns tv ea z).1)
  · obtain ⟨j, s, d, h, m, hv⟩ := q
    obtain ⟨d0, h0⟩ := own0 h m
    exact .inl ⟨j, s, d0, h0, m, hv⟩
  · refine ⟨rfl, ?_⟩
    rcases at_ h with ⟨h1, hn⟩ | ⟨p, ⟨ot, od⟩, s0, d0, v, e1, e2, e3, m0, e5, e6, ed, ⟨eo, es⟩ | ⟨eo, es⟩⟩
    · exact ⟨s, d, h1, pn, .inl rfl⟩
    · subst es; exact ⟨s, d0, e3, pn, .inl rfl⟩
    · subst es
      cases s0 <;> first | (cases m0; done) | (cases pn; done) | exact ⟨_, d0, e3, rfl, .inr rfl⟩
end
end Cw
set_option Elab.async false
set_option linter.all false
set_option maxRecDepth 100000
set_option maxHeartbeats 4000000
set_option autoImplicit false
/-! Cw, part M: calls as expressions -/
namespace Cw
open PySem L2

section
variable {X : Cx} {EA : Nat → Addr} {W : WX} {C : CallSem} {σ : L2.St} {F F' : FS} {H H' : Hp} {ρ ρ' : Rho} {a b c : Expr} {ia ib ic : IE} {pos p : Pos} {es : List Expr} {ies : List IE} {x : Str}
theorem run_fnG {pins : List (Addr × Obj)} {s : Shared} {Q : VK} {us : List Value} {vs : List V} {k : Nat} {f : Addr} {fd : FuncData} {ps : List Str} {sp : Sp} {E : XK} (G : FnG X.prog X.w X.K X.mg X.base k f fd ps sp) (hr : Room k X.A) (hg : X.A.guards = some []) (hb : Binds X.K fd ps [])
    (hx : PassesAt (L2N.CX X.prog X.w) X σ E) (I : Inv X pins σ H s) (r : Vals vs us) (h : sp vs H Q E) : wpAny (model X.prog X.w) X.A (call (.ref f) us) (EP X pins σ Q) X.xe s := by
  have hl : us.length = ps.length := by rw [← r.length]; exact G.len _ _ _ _ h
  have b := hb s us I.kIn (by rw [List.append_nil]; exact hl)
  rw [List.append_nil] at b
  refine wpAny_call (codeAny_mono (G.run X.A X.stack s H ⟨us, []⟩ us vs Q E hr hg I.env0 b r h) fun r s' hq => ?_)
  cases r with
  | error e => exact hx pins H s e s' I hq
  | ok fl =>
    cases fl with
    | ret u => exact I.after hq
    | next => exact False.elim hq
    | brk => exact False.elim hq
    | cont => exact False.elim hq
def tCallG (sp : Sp) (W : WX) (t : TA) : TE := fun σ H Q => t σ H fun vs H1 => sp vs H1 Q (WE W σ)
/-- from the arguments to the callee's promise -/
theorem call_red {f np : Nat} (hlen : ∀ as, C f as ≠ .bad → as.length = np) {Q : VK} (h : tRaw X.K EA W (fun ρ => (evA C ies ρ).bind fun ts ρ1 => callR C f ts ρ1) σ H Q) : tCallG (spC X.K EA np (C f)) W (tA X.K EA W C ies) σ H Q := by
  obtain ⟨F, ρ, r, h⟩ := h
  refine ⟨F, ρ, r, h.bind.mono fun ts F1 H1 ρ1 g1 s1 h1 vs tv => ?_⟩
  replace h1 := h1 F1 g1 s1
  unfold callR at h1
  split at h1
  · exact h1.elim
  · rename_i as ea
    split at h1
    · rename_i nd
      refine ⟨F1, as, arg_rel g1 tv ea nd, hlen as fun z => ?_, ?_⟩
      · rw [z] at h1; exact h1
      · cases e : C f as with
        | bad => rw [e] at h1; exact h1
        | ok fr d outs =>
          rw [e] at h1
          intro F' H' v ro so rv
          obtain ⟨q1, q2⟩ := back_rel g1 tv ea nd ro so
          exact h1 F' H' q1 q2 v (rv.back s1.1.al)
        | exc c x =>
          rw [e] at h1
          intro F' H' cls dd ro so ex
          obtain ⟨q1, q2⟩ := back_rel g1 tv ea nd ro so
          exact h1 F' H' cls dd q1 q2 ex
    · exact h1.elim
theorem pe_callG {k : Nat} {f : Addr} {fd : FuncData} {ps : List Str} {sp : Sp} (G : FnG X.prog X.w X.K X.mg X.base k f fd ps sp) (hr : Room k X.A) (hgu : X.A.guards = some []) (hk : PySem.W.keepIn X.K (.ref f) = true) (hb : Binds X.K fd ps []) (tk : Takes X W)
    (hg : Gl X x) (hm : X.mg x = some (.ref f)) (hd : (x == ("__debug__" : Str)) = false) (h : SndL X EA W C es ies) : PE X (.Call (.Name x p) es [] pos) (tCallG sp W (tA X.K EA W C ies)) := by
  refine ⟨fun pins s σ H Q I hh => ?_⟩
  refine wpAny_Call_Name_kw (ld_glob I hg hm ?_ hd)
  cases h with
  | nil =>
    refine PySem.W.callWith_K0 I.kIn hk (run_fnG (us := []) G hr hgu hb (passAt tk σ) I .nil ?_)
    obtain ⟨F, ρ, r, hh⟩ := hh
    exact hh.here r [] rfl
  | cons sn n t =>
    refine PySem.W.callWith_K (h₀ := X.base) I.ok.mod.kin hk (thn ((SndL.cons sn n t).paA.run pos pins s σ H _ I hh) fun us s1 ⟨vs, H1, I1, r, q⟩ => ⟨I1.kIn, ?_⟩) (n _ _) (t.plain _ _)
    exact run_fnG G hr hgu hb (passAt tk σ) I1 r q
theorem snd_call {T : Tab} {N : List Str} {sc : Scope} {fb : Str → Bool} {k f : Nat} (g : GX T EA X N sc fb k C) (tk : Takes X W) (hf : T.fns[f]? = some x) (hg : Gl X x) (hd : (x == ("__debug__" : Str)) = false) (h : SndL X EA W C es ies) :
    Snd X EA W C (.Call (.Name x p) es [] pos) (.call f ies) := by
  obtain ⟨fa, fd, ps, hm, hk, hb, hl, G⟩ := g.fns f x hf
  exact Snd.of (raw := fun ρ => (evA C ies ρ).bind fun ts ρ1 => callR C f ts ρ1) (fun m ρ => rfl) (fun _ z => nomatch z) (fun _ _ => rfl)
    (PE.imp' (pe_callG G g.room g.guards hk hb tk hg hm hd h) fun σ H Q h => call_red hl h)

/-! ### [f, g, ..][i](..) -/
/-- the names of a display of defs -/
inductive FnsL (T : Tab) (X : Cx) : List Expr → List Nat → Prop
  | nil : FnsL T X [] []
  | cons {x : Str} {f : Nat} {q : Pos} {es : List Expr} {fs : List Nat} : T.fns[f]? = some x → Gl X x → (x == ("__debug__" : Str)) = false → FnsL T X es fs → FnsL T X (.Name x q :: es) (f :: fs)
def tVals (vs : List V) : TA := fun _ H Q => Q vs H
theorem FnsL.vals {T : Tab} {N : List Str} {sc : Scope} {fb : Str → Bool} {k : Nat} (g : GX T EA X N sc fb k C) {fs : List Nat} (h : FnsL T X es fs) :
    ∃ as : List Addr, PA X es (tVals (as.map V.ref)) ∧ as.length = fs.length ∧ ∀ (j : Nat) f, fs[j]? = some f → ∃ (a : Addr) (x : Str), as[j]? = some a ∧ T.fns[f]? = some x ∧ X.mg x = some (.ref a) := by
  induction h with
  | nil => exact ⟨[], PA.imp' pa_nil fun σ H Q h => h, rfl, fun j f h => by simp at h⟩
  | @cons x f q es fs hf hg hd _ ih =>
    obtain ⟨as, h1, h2, h3⟩ := ih
    obtain ⟨fa, fd, ps, hm, hk, hb, hl, G⟩ := g.fns f x hf
    refine ⟨fa :: as, PA.imp' (pa_cons (pe_glob (pos := q) hg hm (v := .ref fa) rfl hd) h1 rfl) fun σ H Q h => h, by rw [List.length_cons, List.length_cons, h2], fun j f' h => ?_⟩
    cases j with
    | zero => simp at h; subst h; exact ⟨fa, x, rfl, hf, hm⟩
    | succ j =>
      obtain ⟨a, y, q1, q2⟩ := h3 j f' (by simpa using h)
      exact ⟨a, y, by simpa using q1, q2⟩
theorem ixAt_len {α β : Type} {xs : List α} {ys : List β} (hl : ys.length = xs.length) {i : Int} {x : α} (h : ixAt xs i = some x) : ∃ (j : Nat), xs[j]? = some x ∧ ∀ y, ys[j]? = some y → ixAt ys i = some y := by
  unfold ixAt at h
  split at h
  · rename_i h0
    split at h
    · rename_i h1
      exact ⟨i.toNat, h, fun y hy => by unfold ixAt; rw [if_pos h0, hl, if_pos h1]; exact hy⟩
    · cases h
  · rename_i h0
    split at h
    · rename_i h1
      exact ⟨(i + xs.length).toNat, h, fun y hy => by unfold ixAt; rw [if_neg h0, hl, if_pos h1]; exact hy⟩
    · cases h
theorem atI_ref {as : List Addr} {i : Int} {a : Addr} (h : ixAt as i = some a) : atI (as.map V.ref) i = some (.ref a) := by
  unfold ixAt at h
  unfold atI ixN
  rw [List.length_map]
  split at h
  · rename_i h0
    split at h
    · rename_i h1
      rw [if_pos h0, if_pos h1]
      show (as.map V.ref)[i.toNat]? = _
      rw [List.getElem?_map, h]; rfl
    · cases h
  · rename_i h0
    split at h
    · rename_i h1
      rw [if_neg h0, if_pos h1]
      show (as.map V.ref)[(i + as.length).toNat]? = _
      rw [List.getElem?_map, h]; rfl
    · cases h
def tCallV (X : Cx) (k : Nat) (W : WX) (tf : TE) (t : TA) : TE := fun σ H Q => tf σ H fun y H1 => ∃ (f : Addr) (fd : FuncData) (ps : List Str) (sp : Sp), y = .ref f ∧ FnG X.prog X.w X.K X.mg X.base k f fd ps sp ∧ PySem.W.keepIn X.K (.ref f) = true ∧ Binds X.K fd ps [] ∧ t σ H1 fun vs H2 => sp vs H2 Q (WE W σ)
theorem pe_callV {k : Nat} {fe : Expr} {tf : TE} (hf : PE X fe tf) (hr : Room k X.A) (hgu : X.A.guards = some []) (tk : Takes X W) (h : SndL X EA W C es ies)
    (ht : eval (.Call fe es [] pos) X.env = (do callWith pos (← eval fe X.env) [] (backTo pos (starEach es X.env)) (backToKw pos (keywordEach [] X.env)))) : PE X (.Call fe es [] pos) (tCallV X k W tf (tA X.K EA W C ies)) := by
  refine ⟨fun pins s σ H Q I hh => ?_⟩
  refine PyProof.Rows.Call_ (thn (hf.run pins s σ H _ I hh) fun u s1 ⟨y, H1, I1, ry, f, fd, ps, sp, ey, G, hk, hb, q⟩ => ?_) ht
  subst ey
  obtain rfl : u = Value.ref f := ry
  cases h with
  | nil =>
    refine PySem.W.callWith_K0 I1.kIn hk (run_fnG (us := []) G hr hgu hb (passAt tk σ) I1 .nil ?_)
    obtain ⟨F, ρ, r, hh⟩ := q
    exact hh.here r [] rfl
  | cons sn n t =>
    refine PySem.W.callWith_K (h₀ := X.base) I1.ok.mod.kin hk (thn ((SndL.cons sn n t).paA.run pos pins s1 σ H1 _ I1 q) fun us s2 ⟨vs, H2, I2, r, q⟩ => ⟨I2.kIn, ?_⟩) (n _ _) (t.plain _ _)
    exact run_fnG G hr hgu hb (passAt tk σ) I2 r q
theorem snd_cals {T : Tab} {N : List Str} {sc : Scope} {fb : Str → Bool} {k : Nat} {fes : List Expr} {fs : List Nat} {lp sp : Pos} (g : GX T EA X N sc fb k C) (tk : Takes X W) (hfs : FnsL T X fes fs) (hi : Snd X EA W C a ia) (hpl : PlainIx a) (h : SndL X EA W C es ies)
    (h16 : fs.length ≤ 16777216)
    (ht : eval (.Call (.Subscript (.List fes lp) a sp) es [] pos) X.env = (do callWith pos (← eval (.Subscript (.List fes lp) a sp) X.env) [] (backTo pos (starEach es X.env)) (backToKw pos (keywordEach [] X.env)))) :
    Snd X EA W C (.Call (.Subscript (.List fes lp) a sp) es [] pos) (.cals fs ia ies) := by
  obtain ⟨as, h1, h2, h3⟩ := hfs.vals g
  have hu := g.units
  have hf := pe_ix (pos := sp) (ix_any (X := X) (by omega)) (pe_lst (pos := lp) h1) hi.v hpl
  refine Snd.of (raw := fun ρ => (ev C false ia ρ).bind fun x ρ1 => match x.2 with
      | .int k => (match ixAt fs k with
        | some f => (evA C ies ρ1).bind fun ts ρ2 => callR C f ts ρ2
        | none => .bad)
      | _ => .bad) (fun m ρ => rfl) (fun _ z => nomatch z) (fun _ _ => rfl) (PE.imp' (pe_callV hf g.room g.guards tk h ht) fun σ H Q hh => ?_)
  obtain ⟨F, ρ, r, hh⟩ := hh
  have hle : (as.map V.ref).length ≤ sizeLine := by rw [List.length_map, h2]; exact len16 h16
  refine ⟨hle, fun p hp => ?_⟩
  have rl := r.lay hp (.lst (as.map V.ref))
  have sl := EStep.lay r hp (.lst (as.map V.ref))
  have np : ¬ OwnA ρ σ p := fun o => (r.notF o).2 hp
  refine ⟨F, ρ, rl, (hh.bind.start sl).mono fun x F1 H1 ρ1 g1 s1 h4 v rv => ?_⟩
  obtain ⟨fx, x⟩ := x
  replace h4 := h4 F1 g1 (sl.trans s1)
  split at h4
  · rename_i i e
    simp only at e
    subst e
    split at h4
    · rename_i f ef
      obtain ⟨j, e1, e2⟩ := ixAt_len h2 ef
      obtain ⟨fa, y, e3, e4, e5⟩ := h3 j f e1
      obtain ⟨fa', fd, ps, hm, hk, hb, hl, G⟩ := g.fns f y e4
      rw [e5] at hm
      cases hm
      have hp1 : H1 p = some (.lst (as.map V.ref)) := s1.1.fr p _ upd_same np
      refine .inr (.inl ⟨p, as.map V.ref, i, .ref fa, rfl, rv.int, .inl (.inl hp1), atI_ref (e2 _ e3), fa, fd, ps, _, rfl, G, hk, hb, call_red hl ⟨F1, ρ1, g1, ?_⟩⟩)
      exact h4.mono fun x F2 H2 ρ2 g2 s2 q v rv => q v (rv.back fun q n => sl.1.al q (s1.1.al q n))
    · exact h4.elim
  · exact h4.elim
end
end Cw
set_option Elab.async false
set_option linter.all false
set_option maxRecDepth 100000
set_option maxHeartbeats 4000000
set_option autoImplicit false
/-! Cw, part N: what is walked -/
namespace Cw
open PySem L2

/-- things as they stand later -/
def Aft (F0 : FS) (H0 : Hp) (own : Addr → Prop) (F : FS) (H : Hp) : Prop := (∀ a, F0 a → F a) ∧ ∀ a o, H0 a = some o → ¬ own a → H a = some o
/-- J walks the values ds -/
structure Walk (K : PySem.W.Frag) (F0 : FS) (H0 : Hp) (own : Addr → Prop) (J : It) (ds : List PV) : Prop where
  go : ∀ F H (i : Nat), Aft F0 H0 own F H → i < ds.length → J.go i H
  yld : ∀ F H ρ σ (i : Nat) x H' d, Aft F0 H0 own F H → Rel K F H ρ σ → J.yld i H x H' → ds[i]? = some d → ∃ F', Rel K F' H' ρ σ ∧ EStep F H ρ σ F' H' ρ ∧ Rep K F' H' d x
  stop : ∀ F H (i : Nat), Aft F0 H0 own F H → ds.length = i → J.stop i H

section
variable {K : PySem.W.Frag} {σ : L2.St} {F F' F0 : FS} {H H' H0 : Hp} {ρ ρ' ρ0 : Rho} {own : Addr → Prop}
theorem Walk.ofLe {J : It} {ds : List PV} (go : ∀ F H (i : Nat), Aft F0 H0 own F H → i < ds.length → J.go i H) (yld : ∀ F H ρ σ (i : Nat) x H' d, Aft F0 H0 own F H → Rel K F H ρ σ → J.yld i H x H' → ds[i]? = some d → ∃ F', Rel K F' H' ρ σ ∧ EStep F H ρ σ F' H' ρ ∧ Rep K F' H' d x)
    (stop : ∀ F H (i : Nat), Aft F0 H0 own F H → ds.length ≤ i → J.stop i H) : Walk K F0 H0 own J ds := ⟨go, yld, fun F H i h hi => stop F H i h (Nat.le_of_eq hi)⟩
theorem Step.aft {σ' : L2.St} (s : Step F0 H0 ρ0 σ F H ρ σ') : Aft F0 H0 (OwnA ρ0 σ) F H := ⟨s.ff, s.fr⟩
theorem Aft.keep (hn : ∀ a, F0 a → ¬ own a) (h : Aft F0 H0 own F H) : ∀ a o, F0 a → H0 a = some o → H a = some o := fun a o f e => h.2 a o e (hn a f)
theorem walk_lst {a : Addr} {xs : List V} {ds : List PV} (hn : ∀ a, F0 a → ¬ own a) (ha : ¬ own a) (e : H0 a = some (.lst xs)) (r : Reps K F0 H0 ds xs) : Walk K F0 H0 own (Itl K a) ds := by
  have sq : ∀ F H, Aft F0 H0 own F H → SqL K H a xs := fun F H h => .inl (.inl (h.2 a _ e ha))
  refine Walk.ofLe (fun F H i h hi => ?_) (fun F H ρ σ i x H' d h rel y hd => ?_) (fun F H i h hi => ⟨xs, sq F H h, by rw [r.len]; exact hi⟩)
  · obtain ⟨v, hv, _⟩ := r.at (List.getElem?_eq_getElem hi)
    exact ⟨xs, v, sq F H h, hv⟩
  · obtain ⟨e1, e2⟩ := y
    subst e1
    obtain ⟨v, hv, rv⟩ := r.at hd
    have := e2 xs (sq F _ h)
    rw [hv] at this
    cases this
    exact ⟨F, rel, .refl, rv.keep h.1 (h.keep hn)⟩
theorem walk_tup {a : Addr} {xs : List V} {ds : List PV} (hn : ∀ a, F0 a → ¬ own a) (ha : ¬ own a) (e : H0 a = some (.tup xs)) (r : Reps K F0 H0 ds xs) : Walk K F0 H0 own (Itt K a) ds := by
  have sq : ∀ F H, Aft F0 H0 own F H → SqT K H a xs := fun F H h => .inl (.inl (h.2 a _ e ha))
  refine Walk.ofLe (fun F H i h hi => ?_) (fun F H ρ σ i x H' d h rel y hd => ?_) (fun F H i h hi => ⟨xs, sq F H h, by rw [r.len]; exact hi⟩)
  · obtain ⟨v, hv, _⟩ := r.at (List.getElem?_eq_getElem hi)
    exact ⟨xs, v, sq F H h, hv⟩
  · obtain ⟨e1, e2⟩ := y
    subst e1
    obtain ⟨v, hv, rv⟩ := r.at hd
    have := e2 xs (sq F _ h)
    rw [hv] at this
    cases this
    exact ⟨F, rel, .refl, rv.keep h.1 (h.keep hn)⟩
theorem walk_rng {lo : Int} {n : Nat} {ds : List PV} (hl : ds.length = n) (hd : ∀ (i : Nat) (d : PV), ds[i]? = some d → d = PV.int (lo + (i : Nat))) : Walk K F0 H0 own (Itr lo n) ds := by
  refine ⟨fun F H i h hi => by show i < n; omega, fun F H ρ σ i x H' d h rel y e => ?_, fun F H i h hi => by show n ≤ i; omega⟩
  obtain ⟨e1, e2⟩ := y
  subst e1 e2
  rw [hd i d e]
  exact ⟨F, rel, .refl, rfl⟩
/-- a new pair -/
theorem pair_new (rel : Rel K F H ρ σ) {T : Addr} {x y : V} {d e : PV} (hT : H T = none) (h1 : Rep K F H d x) (h2 : Rep K F H e y) :
    ∃ F', Rel K F' (upd H T (.tup [x, y])) ρ σ ∧ EStep F H ρ σ F' (upd H T (.tup [x, y])) ρ ∧ Rep K F' (upd H T (.tup [x, y])) (.tup [d, e]) (.ref T) := by
  have rl := rel.lay hT (.tup [x, y])
  have sl := EStep.lay rel hT (.tup [x, y])
  have no : ¬ OwnA ρ σ T := fun o => (rel.notF o).2 hT
  refine ⟨addF F T, rl.share (by rw [upd_same]; simp) no, EStep.share (fun q e => .inl (by rw [e]; exact hT)) sl, T, [x, y], rfl, ⟨.inr rfl, upd_same⟩, ?_⟩
  have hk : ∀ b u, F b → H b = some u → upd H T (.tup [x, y]) b = some u := fun b u f e => by
    have ne : b ≠ T := fun z => by subst z; rw [hT] at e; cases e
    rw [upd_ne ne]; exact e
  exact ⟨x, [y], rfl, h1.keep (fun _ => .inl) hk, y, [], rfl, h2.keep (fun _ => .inl) hk, rfl⟩
theorem pairs_at : ∀ {ds es : List PV} {i : Nat} {d : PV}, (pairs ds es)[i]? = some d → ∃ a b, ds[i]? = some a ∧ es[i]? = some b ∧ d = .tup [a, b]
  | [], _, _, _, h => by simp [pairs] at h
  | _ :: _, [], _, _, h => by simp [pairs] at h
  | x :: xs, y :: ys, 0, d, h => by simp [pairs] at h; exact ⟨x, y, rfl, rfl, h.symm⟩
  | x :: xs, y :: ys, i + 1, d, h => by
    obtain ⟨a, b, h1, h2, h3⟩ := pairs_at (ds := xs) (es := ys) (i := i) (d := d) (by simpa [pairs] using h)
    exact ⟨a, b, by simpa using h1, by simpa using h2, h3⟩
theorem pairs_len : ∀ ds es : List PV, (pairs ds es).length = min ds.length es.length
  | [], _ => by simp [pairs]
  | _ :: _, [] => by simp [pairs]
  | x :: xs, y :: ys => by simp [pairs, pairs_len xs ys] <;> omega
theorem enumF_at : ∀ {ds : List PV} {n i : Nat} {d : PV}, (enumF n ds)[i]? = some d → ∃ a, ds[i]? = some a ∧ d = .tup [.int ((n + i : Nat) : Int), a]
  | [], _, _, _, h => by simp [enumF] at h
  | x :: xs, n, 0, d, h => by simp [enumF] at h; exact ⟨x, rfl, h.symm⟩
  | x :: xs, n, i + 1, d, h => by
    obtain ⟨a, h1, h2⟩ := enumF_at (ds := xs) (n := n + 1) (i := i) (d := d) (by simpa [enumF] using h)
    exact ⟨a, by simpa using h1, by rw [h2, show n + 1 + i = n + (i + 1) by omega]⟩
theorem enumF_len : ∀ (ds : List PV) (n : Nat), (enumF n ds).length = ds.length
  | [], _ => rfl
  | x :: xs, n => by rw [enumF, List.length_cons, List.length_cons, enumF_len]
theorem walk_zipL {a b : Addr} {xs ys : List V} {ds es : List PV} (hn : ∀ a, F0 a → ¬ own a) (ha : ¬ own a) (hb : ¬ own b) (e1 : H0 a = some (.lst xs)) (e2 : H0 b = some (.lst ys)) (r1 : Reps K F0 H0 ds xs) (r2 : Reps K F0 H0 es ys) :
    Walk K F0 H0 own (Itz K a b) (pairs ds es) := by
  have s1 : ∀ F H, Aft F0 H0 own F H → SqL K H a xs := fun F H h => .inl (.inl (h.2 a _ e1 ha))
  have s2 : ∀ F H, Aft F0 H0 own F H → SqL K H b ys := fun F H h => .inl (.inl (h.2 b _ e2 hb))
  refine Walk.ofLe (fun F H i h hi => ?_) (fun F H ρ σ i x H' d h rel y hd => ?_) (fun F H i h hi => ⟨xs, ys, s1 F H h, s2 F H h, ?_⟩)
  · rw [pairs_len] at hi
    have i1 : i < ds.length := by omega
    have i2 : i < es.length := by omega
    obtain ⟨v, hv, _⟩ := r1.at (List.getElem?_eq_getElem i1)
    obtain ⟨w, hw, _⟩ := r2.at (List.getElem?_eq_getElem i2)
    exact ⟨xs, ys, v, w, s1 F H h, s2 F H h, hv, hw⟩
  · obtain ⟨T, v, w, q1, q2, q3, q4, q5⟩ := y
    obtain ⟨d1, d2, h1, h2, h3⟩ := pairs_at hd
    obtain ⟨v', hv, rv⟩ := r1.at h1
    obtain ⟨w', hw, rw'⟩ := r2.at h2
    have z1 := q4 xs (s1 F H h)
    have z2 := q5 ys (s2 F H h)
    rw [hv] at z1
    rw [hw] at z2
    cases z1
    cases z2
    subst q1 q3 h3
    exact pair_new rel q2 (rv.keep h.1 (h.keep hn)) (rw'.keep h.1 (h.keep hn))
  · rw [pairs_len] at hi
    rw [r1.len, r2.len]
    omega
theorem walk_zipT {a b : Addr} {xs ys : List V} {ds es : List PV} (hn : ∀ a, F0 a → ¬ own a) (ha : ¬ own a) (hb : ¬ own b) (e1 : H0 a = some (.tup xs)) (e2 : H0 b = some (.tup ys)) (r1 : Reps K F0 H0 ds xs) (r2 : Reps K F0 H0 es ys) :
    Walk K F0 H0 own (RZ.ItzT K a b) (pairs ds es) := by
  have s1 : ∀ F H, Aft F0 H0 own F H → SqT K H a xs := fun F H h => .inl (.inl (h.2 a _ e1 ha))
  have s2 : ∀ F H, Aft F0 H0 own F H → SqT K H b ys := fun F H h => .inl (.inl (h.2 b _ e2 hb))
  refine Walk.ofLe (fun F H i h hi => ?_) (fun F H ρ σ i x H' d h rel y hd => ?_) (fun F H i h hi => ⟨xs, ys, s1 F H h, s2 F H h, ?_⟩)
  · rw [pairs_len] at hi
    have i1 : i < ds.length := by omega
    have i2 : i < es.length := by omega
    obtain ⟨v, hv, _⟩ := r1.at (List.getElem?_eq_getElem i1)
    obtain ⟨w, hw, _⟩ := r2.at (List.getElem?_eq_getElem i2)
    exact ⟨xs, ys, v, w, s1 F H h, s2 F H h, hv, hw⟩
  · obtain ⟨T, v, w, q1, q2, q3, q4, q5⟩ := y
    obtain ⟨d1, d2, h1, h2, h3⟩ := pairs_at hd
    obtain ⟨v', hv, rv⟩ := r1.at h1
    obtain ⟨w', hw, rw'⟩ := r2.at h2
    have z1 := q4 xs (s1 F H h)
    have z2 := q5 ys (s2 F H h)
    rw [hv] at z1
    rw [hw] at z2
    cases z1
    cases z2
    subst q1 q3 h3
    exact pair_new rel q2 (rv.keep h.1 (h.keep hn)) (rw'.keep h.1 (h.keep hn))
  · rw [pairs_len] at hi
    rw [r1.len, r2.len]
    omega
theorem walk_enum {a : Addr} {xs : List V} {ds : List PV} (hn : ∀ a, F0 a → ¬ own a) (ha : ¬ own a) (e1 : H0 a = some (.lst xs)) (r1 : Reps K F0 H0 ds xs) : Walk K F0 H0 own (Ite K a) (enumF 0 ds) := by
  have s1 : ∀ F H, Aft F0 H0 own F H → SqL K H a xs := fun F H h => .inl (.inl (h.2 a _ e1 ha))
  refine Walk.ofLe (fun F H i h hi => ?_) (fun F H ρ σ i x H' d h rel y hd => ?_) (fun F H i h hi => ⟨xs, s1 F H h, ?_⟩)
  · rw [enumF_len] at hi
    obtain ⟨v, hv, _⟩ := r1.at (List.getElem?_eq_getElem hi)
    exact ⟨xs, v, s1 F H h, hv⟩
  · obtain ⟨T, v, q1, q2, q3, q4⟩ := y
    obtain ⟨d1, h1, h3⟩ := enumF_at hd
    obtain ⟨v', hv, rv⟩ := r1.at h1
    have z1 := q4 xs (s1 F H h)
    rw [hv] at z1
    cases z1
    subst q1 q3 h3
    rw [Nat.zero_add]
    exact pair_new rel q2 rfl (rv.keep h.1 (h.keep hn))
  · rw [enumF_len] at hi
    rw [r1.len]; exact hi
end
end Cw
set_option Elab.async false
set_option linter.all false
set_option maxRecDepth 100000
set_option maxHeartbeats 4000000
set_option autoImplicit false
/-! Cw, part Na: zip of a tuple and a list -/
namespace Cw
open PySem PySem.Spec PyProof.Rows L2

/-- the tuple at a and the list at b, side by side -/
def ItzM (K : PySem.W.Frag) (a b : Addr) : It where
  go := fun n J => ∃ (ps qs : List V) (p q : V), SqT K J a ps ∧ SqL K J b qs ∧ ps[n]? = some p ∧ qs[n]? = some q
  yld := fun n J u J' => ∃ t p q, u = .ref t ∧ J t = none ∧ J' = upd J t (.tup [p, q]) ∧ (∀ ps, SqT K J a ps → ps[n]? = some p) ∧ ∀ qs, SqL K J b qs → qs[n]? = some q
  stop := fun n J => ∃ ps qs : List V, SqT K J a ps ∧ SqL K J b qs ∧ (n ≤ ps.length ∧ n ≤ qs.length ∧ (n = ps.length ∨ n = qs.length))
/-- the five cells stand apart -/
theorem nin2 {n a b : Nat} (h1 : n ≠ a) (h2 : n ≠ b) : (n : Addr) ∉ ([a, b] : List Addr) := fun z => by
  rcases List.mem_cons.mp z with z | z
  · exact h1 z
  · exact h2 (List.mem_singleton.mp z)
theorem neA {n a : Nat} (h : n ≠ a) : (n : Addr) ≠ (a : Addr) := h
theorem sepM {n a b : Nat} (ha : a < n) (hb : b < n) : ZipSep2 (n + 4) (n + 2) (n + 3) n (n + 1) [n, a] [n + 1, b] := by
  constructor <;> first | exact List.mem_cons_self | (refine nin2 ?_ ?_ <;> omega) | (refine neA ?_; omega)
/-- how it stands before turn i -/
def StM (z TI TO i1 i2 a b : Addr) (i : Nat) (h : Heap) : Prop := IsZip h z TI TO .none ∧ IsTupOf2 h TI (.ref i1) (.ref i2) ∧ (∃ x y, IsTupOf2 h TO x y) ∧ h.IsTupleIter i1 a i ∧ h.IsListIter i2 b i
theorem apT {h : Heap} {it a : Addr} {i : Nat} {xs : Array Value} (g : h.IsTupleIter it a i) (t : h.IsTuple a xs) : a ≠ it := fun e => by
  obtain ⟨o, e1, c1, _⟩ := g
  obtain ⟨o2, e2, c2, _⟩ := t
  rw [e, e1] at e2
  cases e2
  rw [c1] at c2
  exact absurd c2 (by decide)
theorem apL {h : Heap} {it a : Addr} {i : Nat} {xs : Array Value} (g : h.IsListIter it a i) (t : h.IsList a xs) : a ≠ it := fun e => by
  obtain ⟨o, e1, c1, _⟩ := g
  obtain ⟨o2, e2, c2, _⟩ := t
  rw [e, e1] at e2
  cases e2
  rw [c1] at c2
  exact absurd c2 (by decide)
theorem turnM {P : Program} {w : World} {K : PySem.W.Frag} {elts : List Expr} {kk : Nat} {tpos : Pos} {a b z TI TO i1 i2 : Addr} (S : ZipSep2 z TI TO i1 i2 [i1, a] [i2, b]) : Turn P w K (.Tuple elts kk tpos) (ItzM K a b) [z, TI, TO, i1, i2] z (StM z TI TO i1 i2 a b) where
  mem := List.mem_cons_self
  obj := by
    rintro i h ⟨g1, g2, ⟨x, y, g3⟩, ⟨p, g4, _, d4⟩, ⟨q, g5, _, d5⟩⟩ c hc
    simp only [List.mem_cons, List.not_mem_nil, or_false] at hc
    rcases hc with rfl | rfl | rfl | rfl | rfl
    · exact ⟨_, g1, fun v t => nomatch t⟩
    · exact ⟨_, g2, fun v t => nomatch t⟩
    · exact ⟨_, g3, fun v t => nomatch t⟩
    · exact ⟨p, g4, fun v t => nomatch d4.symm.trans t⟩
    · exact ⟨q, g5, fun v t => nomatch d5.symm.trans t⟩
  keep := by
    rintro i h h' ⟨g1, g2, ⟨x, y, g3⟩, g4, g5⟩ kp
    exact ⟨kp _ (by simp) _ g1, kp _ (by simp) _ g2, ⟨x, y, kp _ (by simp) _ g3⟩, g4.at fun o => kp _ (by simp) o, g5.at fun o => kp _ (by simp) o⟩
  item := by
    intro X hP hw hK hc i pins s σ H E I fpk st gone
    subst hP hw hK
    obtain ⟨g1, g2, ⟨x0, y0, g3⟩, g4, g5⟩ := st
    obtain ⟨ps, qs, p, q, hp, hq, hpi, hqi⟩ := gone
    obtain ⟨ls, rl, tl, _⟩ := I.tuple hp
    obtain ⟨ms, rm, tm, _⟩ := I.list hq
    obtain ⟨u, hu, ru⟩ := rl.get hpi
    obtain ⟨v, hv, rv⟩ := rm.get hqi
    have nd : X.A.in1.handled = none := I.ok.hd hc
    have lu : i < ls.toArray.size := by rw [List.size_toArray]; exact (List.getElem?_eq_some_iff.mp hu).1
    have lv : i < ms.toArray.size := by rw [List.size_toArray]; exact (List.getElem?_eq_some_iff.mp hv).1
    have zl := Heap.lt_size g1
    have f1 := apT g4 (show s.heap.IsTuple a ls.toArray from tl)
    have f2 := apL g5 tm.isList
    refine wpAny_pyNext_zipD2_item S (Draws.tuple nd i1 a f1 ls.toArray) (Draws.list nd i2 b f2 ms.toArray) g1 g2 g3 ⟨g4, tl⟩ ⟨g5, tm.isList⟩ lu lv fun x1 x2 h' tk y1 y2 b1 b2 b3 b4 bT bs kp => ?_
    have ex1 : x1 = u := by
      have : ls.toArray[i]? = some x1 := y1
      rw [List.getElem?_toArray, hu] at this
      exact (Option.some.inj this).symm
    have ex2 : x2 = v := by
      have : ms.toArray[i]? = some x2 := y2
      rw [List.getElem?_toArray, hv] at this
      exact (Option.some.inj this).symm
    subst ex1 ex2
    refine ⟨_, rfl, wpAny_letOwnedTupleGo_zip (s := { s with heap := h', toks := tk }) b1 fun h2 b1' sb => ?_⟩
    have notz : s.heap.objs.size ≠ z := Nat.ne_of_gt zl
    have tT : h2.get? s.heap.objs.size = some { cls := .type "tuple", data := .seq #[x1, x2] } := (sb.2 _ notz).trans bT
    have mk : ObjOk X.prog X.w (upd H s.heap.objs.size (.tup [p, q])) h2 s.heap.objs.size (.tup [p, q]) := ⟨show 2 ≤ sizeLine by decide, [x1, x2], .cons ru (.cons rv .nil), ⟨_, tT, rfl, _, rfl⟩⟩
    have J : Inv X pins σ (upd H s.heap.objs.size (.tup [p, q])) { s with heap := h2, toks := tk } := by
      refine I.turnedNew (t' := tk) (ch := [z, TI, TO, i1, i2]) (fun c o nb e => ?_) fpk (Nat.le_refl _) mk
      simp only [List.mem_cons, List.not_mem_nil, or_false, not_or] at nb
      exact (sb.2 c nb.1).trans (kp c o nb.1 nb.2.2.1 nb.2.2.2.1 nb.2.2.2.2 e)
    refine ⟨.ref s.heap.objs.size, _, J, rfl, ⟨_, p, q, rfl, I.hok.fresh (Nat.le_refl _), rfl, fun l hl => ?_, fun l hl => ?_⟩, ⟨b1', ?_, ⟨x1, x2, ?_⟩, ?_, ?_⟩, fun c hcm => ?_⟩
    · rw [I.tuple_inj hl hp]; exact hpi
    · rw [I.list_inj hl hq]; exact hqi
    · exact (sb.2 _ S.TIz).trans (kp _ _ S.TIz S.TITO S.TIi1 S.TIi2 g2)
    · exact (sb.2 _ S.TOz).trans b2
    · exact b3.1.at fun o e => (sb.2 _ S.zi1.symm).trans e
    · exact b4.1.at fun o e => (sb.2 _ S.zi2.symm).trans e
    · have lt : c < s.heap.objs.size := by
        simp only [List.mem_cons, List.not_mem_nil, or_false] at hcm
        rcases hcm with rfl | rfl | rfl | rfl | rfl
        · exact zl
        · exact Heap.lt_size g2
        · exact Heap.lt_size g3
        · exact Heap.lt_size g4.choose_spec.1
        · exact Heap.lt_size g5.choose_spec.1
      rw [upd_ne (Nat.ne_of_lt lt)]
      exact (fpk c hcm).1
  done := by
    intro X hP hw hK hc i pins s σ H E I fpk st gone
    subst hP hw hK
    obtain ⟨g1, g2, ⟨x0, y0, g3⟩, g4, g5⟩ := st
    obtain ⟨ps, qs, hp, hq, fin⟩ := gone
    obtain ⟨ls, rl, tl, _⟩ := I.tuple hp
    obtain ⟨ms, rm, tm, _⟩ := I.list hq
    have nd : X.A.in1.handled = none := I.ok.hd hc
    have l1 : ls.toArray.size = ps.length := by rw [List.size_toArray]; exact rl.length.symm
    have l2 : ms.toArray.size = qs.length := by rw [List.size_toArray]; exact rm.length.symm
    rw [← l1, ← l2] at fin
    refine wpAny_pyNext_zipD2_end S (Draws.tuple nd i1 a (apT g4 tl) ls.toArray) (Draws.list nd i2 b (apL g5 tm.isList) ms.toArray) g1 g2 g3 ⟨g4, tl⟩ ⟨g5, tm.isList⟩ fin.1 fin.2.1 fin.2.2 fun h' tk kp => ?_
    refine ⟨rfl, I.turnedL (t' := tk) (ch := [z, TI, TO, i1, i2]) (fun c o nb e => ?_) fpk⟩
    simp only [List.mem_cons, List.not_mem_nil, or_false, not_or] at nb
    exact kp c o nb.1 nb.2.2.1 nb.2.2.2.1 nb.2.2.2.2 e
  self := fun A i s Q E st h => wpAny_pyIter_zip st.1 h
/-- zip of two lists, of two tuples, of a tuple and a list -/
def iZipB (K : PySem.W.Frag) (ta : TA) : TI := fun σ H R => ta σ H fun vs H1 => ∃ a b xs ys, vs = [.ref a, .ref b] ∧ ((SqL K H1 a xs ∧ SqL K H1 b ys ∧ R (Itz K a b) H1) ∨ (SqT K H1 a xs ∧ SqT K H1 b ys ∧ R (RZ.ItzT K a b) H1) ∨ (SqT K H1 a xs ∧ SqL K H1 b ys ∧ R (ItzM K a b) H1))
theorem pi_zipB {X : Cx} {e e2 : Expr} {ta : TA} {p pos tpos : Pos} {elts : List Expr} {kk : Nat} (hg : Gl X "zip") (hm : X.mg "zip" = none) (ha : PA X [e, e2] ta) (hs : starEach [e, e2] X.env = (false, eval e X.env) :: starEach [e2] X.env) (hpl : (backTo pos (starEach [e2] X.env)).any (·.1) = false) :
    PI X (.Tuple elts kk tpos) (.Call (.Name "zip" p) [e, e2] [] pos) (iZipB X.K ta) := by
  refine ⟨fun pins s σ H R I h => Call_ (ld_blt I hg hm boot_zip (callWith_type1 (thn (ha.run pos pins s σ H _ I h) fun us t ⟨vs, J, I1, r1, q1⟩ => ?_) hs hpl))⟩
  obtain ⟨a, b, xs, ys, rfl, q1⟩ := q1
  obtain ⟨u1, u2, rfl, ru1, ru2⟩ := Vals.two r1
  cases ru1
  cases ru2
  have fr : ∀ c ∈ [t.heap.objs.size + 4, t.heap.objs.size + 2, t.heap.objs.size + 3, t.heap.objs.size, t.heap.objs.size + 1], FpOk X pins J c := fun c hc => by
    have le : t.heap.objs.size ≤ c := by
      simp only [List.mem_cons, List.not_mem_nil, or_false] at hc
      omega
    exact I1.fpOk le (I1.hok.fresh le)
  rcases q1 with ⟨hx, hy, q⟩ | ⟨hx, hy, q⟩ | ⟨hx, hy, q⟩
  · obtain ⟨ls, rl, tl, _⟩ := I1.list hx
    obtain ⟨ms, rm, tm, _⟩ := I1.list hy
    refine zip_begins2 (begins_list a _) (begins_list b _) tl.isList tm.isList fun h' z1 z2 z3 z4 z5 _ kp => wpAny_pyIter_zip z1 ?_
    exact ⟨_, _, _, _, J, rfl, I1.kept (t' := t.toks) kp, turn_zip (PySem.W.ktu_apart t.heap.objs.size a b tl.lt tm.lt), ⟨z1, z2, ⟨_, _, z3⟩, ⟨_, z4, rfl, rfl⟩, ⟨_, z5, rfl, rfl⟩⟩, fr, q⟩
  · obtain ⟨ls, rl, tl, _⟩ := I1.tuple hx
    obtain ⟨ms, rm, tm, _⟩ := I1.tuple hy
    have la := Heap.lt_size (show t.heap.IsTuple a ls.toArray from tl).choose_spec.1
    have lb := Heap.lt_size (show t.heap.IsTuple b ms.toArray from tm).choose_spec.1
    refine zip_begins2 (begins_tuple a _) (begins_tuple b _) tl tm fun h' z1 z2 z3 z4 z5 _ kp => wpAny_pyIter_zip z1 ?_
    exact ⟨_, _, _, _, J, rfl, I1.kept (t' := t.toks) kp, RZ.turn_zipT (PySem.W.ktu_apart t.heap.objs.size a b la lb), ⟨z1, z2, ⟨_, _, z3⟩, ⟨_, z4, rfl, rfl⟩, ⟨_, z5, rfl, rfl⟩⟩, fr, q⟩
  · obtain ⟨ls, rl, tl, _⟩ := I1.tuple hx
    obtain ⟨ms, rm, tm, _⟩ := I1.list hy
    have la := Heap.lt_size (show t.heap.IsTuple a ls.toArray from tl).choose_spec.1
    refine zip_begins2 (begins_tuple a _) (begins_list b _) tl tm.isList fun h' z1 z2 z3 z4 z5 _ kp => wpAny_pyIter_zip z1 ?_
    exact ⟨_, _, _, _, J, rfl, I1.kept (t' := t.toks) kp, turnM (sepM la tm.lt), ⟨z1, z2, ⟨_, _, z3⟩, ⟨_, z4, rfl, rfl⟩, ⟨_, z5, rfl, rfl⟩⟩, fr, q⟩
section
variable {K : PySem.W.Frag} {F0 : FS} {H0 : Hp} {own : Addr → Prop}
theorem walk_zipM {a b : Addr} {xs ys : List V} {ds es : List PV} (hn : ∀ a, F0 a → ¬ own a) (ha : ¬ own a) (hb : ¬ own b) (e1 : H0 a = some (.tup xs)) (e2 : H0 b = some (.lst ys)) (r1 : Reps K F0 H0 ds xs) (r2 : Reps K F0 H0 es ys) :
    Walk K F0 H0 own (ItzM K a b) (pairs ds es) := by
  have s1 : ∀ F H, Aft F0 H0 own F H → SqT K H a xs := fun F H h => .inl (.inl (h.2 a _ e1 ha))
  have s2 : ∀ F H, Aft F0 H0 own F H → SqL K H b ys := fun F H h => .inl (.inl (h.2 b _ e2 hb))
  refine ⟨fun F H i h hi => ?_, fun F H ρ σ i x H' d h rel y hd => ?_, fun F H i h hi => ⟨xs, ys, s1 F H h, s2 F H h, ?_⟩⟩
  · rw [pairs_len] at hi
    have i1 : i < ds.length := by omega
    have i2 : i < es.length := by omega
    obtain ⟨v, hv, _⟩ := r1.at (List.getElem?_eq_getElem i1)
    obtain ⟨w, hw, _⟩ := r2.at (List.getElem?_eq_getElem i2)
    exact ⟨xs, ys, v, w, s1 F H h, s2 F H h, hv, hw⟩
  · obtain ⟨T, v, w, q1, q2, q3, q4, q5⟩ := y
    obtain ⟨d1, d2, h1, h2, h3⟩ := pairs_at hd
    obtain ⟨v', hv, rv⟩ := r1.at h1
    obtain ⟨w', hw, rw'⟩ := r2.at h2
    have z1 := q4 xs (s1 F H h)
    have z2 := q5 ys (s2 F H h)
    rw [hv] at z1
    rw [hw] at z2
    cases z1
    cases z2
    subst q1 q3 h3
    exact pair_new rel q2 (rv.keep h.1 (h.keep hn)) (rw'.keep h.1 (h.keep hn))
  · rw [pairs_len] at hi
    rw [r1.len, r2.len]
    omega
end
end Cw
set_option Elab.async false
set_option linter.all false
set_option maxRecDepth 100000
set_option maxHeartbeats 4000000
set_option autoImplicit false
/-! Cw, part O: names that are lent, names of a block -/
namespace Cw
open PySem L2

section
variable {K : PySem.W.Frag} {σ σ2 : L2.St} {F F' F0 : FS} {H H' H0 : Hp} {ρ ρ' ρ0 ρ2 ρ3 : Rho} {own : List Nat} {ik : Ik} {its : List IE}
/-- slots keep what they hold, or lose it -/
theorem lend_cases (ik : Ik) (its : List IE) (ρ : Rho) : lendR ik its ρ = ρ ∨ ∃ i s d, lendI ik its = some i ∧ ρ[i]? = some (some (s, d)) ∧ s.mut = true ∧ lendR ik its ρ = ρ.set i (some (.lnt, d)) := by
  unfold lendR
  split
  · rename_i i e
    split
    · rename_i s d h
      split
      · rename_i m; exact .inr ⟨i, s, d, e, h, m, rfl⟩
      · exact .inl rfl
    · exact .inl rfl
  · exact .inl rfl
theorem lnt_own {i : Nat} {s : Stt} {d : PV} (h : ρ[i]? = some (some (s, d))) {a : Addr} (q : OwnA (ρ.set i (some (.lnt, d))) σ a) : OwnA ρ σ a := by
  obtain ⟨j, t, e, hj, hm, hv⟩ := q
  by_cases c : i = j
  · subst c; rw [set_at h] at hj; cases hj; cases hm
  · rw [set_ne c] at hj; exact ⟨j, t, e, hj, hm, hv⟩
/-- the lent object is no slot's meanwhile -/
theorem lnt_free (r : Rel K F H ρ σ) {i : Nat} {s : Stt} {d : PV} (h : ρ[i]? = some (some (s, d))) (m : s.mut = true) {a : Addr} (hv : σ[i]? = some (some (.ref a))) : ¬ OwnA (ρ.set i (some (.lnt, d))) σ a := by
  rintro ⟨j, t, e, hj, hm, hv'⟩
  by_cases c : i = j
  · subst c; rw [set_at h] at hj; cases hj; cases hm
  · rw [set_ne c] at hj
    exact c (r.ap i j _ _ _ _ a h m hj hm hv hv')
theorem Rel.lent (r : Rel K F H ρ σ) {i : Nat} {s : Stt} {d : PV} (h : ρ[i]? = some (some (s, d))) (m : s.mut = true) : Rel K F H (ρ.set i (some (.lnt, d))) σ := by
  have g : ∀ {j : Nat} {t : Stt} {e : PV}, (ρ.set i (some (.lnt, d)))[j]? = some (some (t, e)) → t ≠ .lnt → i ≠ j ∧ ρ[j]? = some (some (t, e)) := fun {j t e} hj ht => by
    by_cases c : i = j
    · subst c; rw [set_at h] at hj; cases hj; exact absurd rfl ht
    · rw [set_ne c] at hj; exact ⟨c, hj⟩
  have n1 : ∀ t : Stt, t.shr = true → t ≠ .lnt := fun t q z => by subst z; cases q
  have n2 : ∀ t : Stt, t.mut = true → t ≠ .lnt := fun t q z => by subst z; cases q
  exact ⟨by rw [List.length_set]; exact r.len, r.ft, fun j t e hj hm => r.rd j t e (g hj (n1 t hm)).2 hm, fun j t e hj hm => r.ow j t e (g hj (n2 t hm)).2 hm,
    fun j k t e t' e' a hj hm hk hm' hv hv' => r.ap j k _ _ _ _ a (g hj (n2 t hm)).2 hm (g hk (n2 t' hm')).2 hm' hv hv'⟩
theorem Rel.lend (r : Rel K F H ρ σ) (ik : Ik) (its : List IE) : Rel K F H (lendR ik its ρ) σ := by
  rcases lend_cases ik its ρ with e | ⟨i, s, d, _, h, m, e⟩
  · rw [e]; exact r
  · rw [e]; exact r.lent h m
theorem lend_own (r : Rel K F H ρ σ) {a : Addr} (q : OwnA (lendR ik its ρ) σ a) : OwnA ρ σ a := by
  rcases lend_cases ik its ρ with e | ⟨i, s, d, _, h, m, e⟩
  · rw [e] at q; exact q
  · rw [e] at q; exact lnt_own h q
/-- the lent name comes back -/
theorem lend_back (r : Rel K F H ρ σ) (r2 : Rel K F' H' ρ2 σ2) (s2 : Step F H (lendR ik its ρ) σ F' H' ρ2 σ2) (e : backR ik its ρ ρ2 = some ρ3) : Rel K F' H' ρ3 σ2 ∧ Step F H ρ σ F' H' ρ3 σ2 ∧
    ((∀ (i : Nat) s d, ρ2[i]? = some (some (s, d)) → s.mut = true → ∃ d0, (lendR ik its ρ)[i]? = some (some (s, d0))) → ∀ (i : Nat) s d, ρ3[i]? = some (some (s, d)) → s.mut = true → ∃ d0, ρ[i]? = some (some (s, d0))) := by
  rcases lend_cases ik its ρ with el | ⟨i, s, d, ei, h, m, el⟩
  · rw [el] at s2
    have e3 : ρ3 = ρ2 := by
      unfold backR at e
      unfold lendR at el
      split at e
      · rename_i i ei
        rw [ei] at el
        dsimp only at el
        split at e
        · rename_i s d h
          rw [h] at el
          dsimp only at el
          split at e
          · rename_i m
            rw [if_pos m] at el
            exfalso
            have := set_at (x := some (.lnt, d)) h
            rw [el, h] at this
            cases this
            cases m
          · cases e; rfl
        · cases e; rfl
      · cases e; rfl
    subst e3
    exact ⟨r2, s2, by rw [el]; exact fun z => z⟩
  · rw [el] at s2
    have e3 : (∃ d2, ρ2[i]? = some (some (.lnt, d2))) ∧ ρ3 = ρ2.set i (some (s, d)) := by
      unfold backR at e
      rw [ei] at e
      dsimp only at e
      rw [h] at e
      dsimp only at e
      rw [if_pos m] at e
      split at e
      · rename_i d2 q; cases e; exact ⟨⟨d2, q⟩, rfl⟩
      · cases e
    obtain ⟨⟨d2, q2⟩, e3⟩ := e3
    subst e3
    have hsame : σ2[i]? = σ[i]? := (s2.pn i .lnt d2 q2 rfl).1
    obtain ⟨a, ha, oa⟩ := r.ow i s d h m
    have rl := r.lent h m
    have na := lnt_free r h m ha
    have oa' : OwnAt K F' H' d a := oa.step rl s2 na
    have no2 : ¬ OwnA ρ2 σ2 a := fun q => (s2.ow a q).elim na fun z => by
      obtain ⟨o, w⟩ := oa.live
      rw [w] at z; cases z
    have hi2 := set_at (x := some (s, d)) q2
    have owl : ∀ b, OwnA (ρ.set i (some (.lnt, d))) σ b → OwnA ρ σ b := fun b q => lnt_own h q
    refine ⟨⟨by rw [List.length_set]; exact r2.len, r2.ft, fun j t e hj hm => ?_, fun j t e hj hm => ?_, fun j k t e t' e' b hj hm hk hm' hv hv' => ?_⟩, ⟨fun b u hb n => s2.fr b u hb fun q => n (owl b q), s2.al, s2.ff, fun b f => (s2.fn b f).imp_right fun z => z.imp_right (owl b), fun b q => ?_, fun j t e hj hp => ?_⟩, fun z j t e hj hm => ?_⟩
    · by_cases c : i = j
      · subst c; rw [hi2] at hj; cases hj; cases s <;> first | (cases m; done) | (cases hm; done)
      · rw [set_ne c] at hj; exact r2.rd j t e hj hm
    · by_cases c : i = j
      · subst c; rw [hi2] at hj; cases hj; exact ⟨a, hsame.trans ha, oa'⟩
      · rw [set_ne c] at hj; exact r2.ow j t e hj hm
    · by_cases cj : i = j
      · by_cases ck : i = k
        · exact cj.symm.trans ck
        · subst cj
          rw [set_ne ck] at hk
          rw [hsame, ha] at hv; cases hv
          exact absurd ⟨k, t', e', hk, hm', hv'⟩ no2
      · rw [set_ne cj] at hj
        by_cases ck : i = k
        · subst ck
          rw [hsame, ha] at hv'; cases hv'
          exact absurd ⟨j, t, e, hj, hm, hv⟩ no2
        · rw [set_ne ck] at hk
          exact r2.ap j k _ _ _ _ b hj hm hk hm' hv hv'
    · obtain ⟨j, t, e, hj, hm, hv⟩ := q
      by_cases c : i = j
      · subst c; rw [hsame, ha] at hv; cases hv; exact .inl ⟨i, s, d, h, m, ha⟩
      · rw [set_ne c] at hj; exact (s2.ow b ⟨j, t, e, hj, hm, hv⟩).imp_left (owl b)
    · by_cases c : i = j
      · subst c; rw [hi2] at hj; cases hj; exact ⟨hsame, s, d, h, hp, .inl rfl⟩
      · rw [set_ne c] at hj
        obtain ⟨q1, s0, d0, q3, q4, q5⟩ := s2.pn j t e hj hp
        rw [set_ne c] at q3
        exact ⟨q1, s0, d0, q3, q4, q5⟩
    · by_cases c : i = j
      · subst c; rw [hi2] at hj; cases hj; exact ⟨d, h⟩
      · rw [set_ne c] at hj
        rw [el] at z
        obtain ⟨d0, q⟩ := z j t e hj hm
        rw [set_ne c] at q
        exact ⟨d0, q⟩

/-! ### the names of a block -/
theorem wipeR_len : ∀ (vs : List Nat) (ρ : Rho), (wipeR ρ vs).length = ρ.length
  | [], _ => rfl
  | v :: vs, ρ => by unfold wipeR; rw [List.length_set, wipeR_len vs ρ]
theorem wipeR_out : ∀ {vs : List Nat} {ρ : Rho} {j : Nat}, j ∉ vs → (wipeR ρ vs)[j]? = ρ[j]?
  | [], _, _, _ => rfl
  | v :: vs, ρ, j, h => by
    unfold wipeR
    rw [List.getElem?_set_ne (fun z => h (by subst z; exact List.mem_cons_self ..))]
    exact wipeR_out fun z => h (List.mem_cons_of_mem _ z)
theorem wipeR_in : ∀ {vs : List Nat} {ρ : Rho} {j : Nat} {s : Stt} {d : PV}, (wipeR ρ vs)[j]? = some (some (s, d)) → j ∉ vs
  | [], _, _, _, _, _ => by simp
  | v :: vs, ρ, j, s, d, h => by
    unfold wipeR at h
    by_cases c : v = j
    · subst c
      by_cases hv : v < (wipeR ρ vs).length
      · rw [List.getElem?_set_self hv] at h; cases h
      · rw [List.getElem?_eq_none (by simpa using hv)] at h; cases h
    · rw [List.getElem?_set_ne c] at h
      simp only [List.mem_cons, not_or]
      exact ⟨fun z => c z.symm, wipeR_in h⟩
theorem unwipe_len (ρ0 : Rho) : ∀ (vs : List Nat) (ρ : Rho), (unwipe ρ0 ρ vs).length = ρ.length
  | [], _ => rfl
  | v :: vs, ρ => by unfold unwipe; rw [List.length_set, unwipe_len ρ0 vs ρ]
theorem unwipe_out (ρ0 : Rho) : ∀ {vs : List Nat} {ρ : Rho} {j : Nat}, j ∉ vs → (unwipe ρ0 ρ vs)[j]? = ρ[j]?
  | [], _, _, _ => rfl
  | v :: vs, ρ, j, h => by
    unfold unwipe
    rw [List.getElem?_set_ne (fun z => h (by subst z; exact List.mem_cons_self ..))]
    exact unwipe_out ρ0 fun z => h (List.mem_cons_of_mem _ z)
theorem unwipe_in (ρ0 : Rho) : ∀ {vs : List Nat} {ρ : Rho} {j : Nat}, ρ.length = ρ0.length → j ∈ vs → (unwipe ρ0 ρ vs)[j]? = ρ0[j]?
  | [], _, _, _, h => nomatch h
  | v :: vs, ρ, j, hl, h => by
    unfold unwipe
    by_cases c : v = j
    · subst c
      by_cases hv : v < ρ0.length
      · rw [List.getElem?_set_self (by rw [unwipe_len, hl]; exact hv), List.getD_eq_getElem?_getD, List.getElem?_eq_getElem hv]; rfl
      · rw [List.getElem?_eq_none (by rw [List.length_set, unwipe_len, hl]; omega), List.getElem?_eq_none (by omega)]
    · rw [List.getElem?_set_ne c]
      rcases List.mem_cons.mp h with h | h
      · exact absurd h.symm c
      · exact unwipe_in ρ0 hl h
theorem wipe_at {vs : List Nat} {j : Nat} (h : j ∉ vs) : (wipe σ vs)[j]? = σ[j]? := L2.wipe_out h
theorem Rel.wipe (r : Rel K F H ρ σ) (vs : List Nat) : Rel K F H (wipeR ρ vs) (wipe σ vs) := by
  have g : ∀ {j : Nat} {t : Stt} {e : PV}, (wipeR ρ vs)[j]? = some (some (t, e)) → j ∉ vs ∧ ρ[j]? = some (some (t, e)) := fun {j t e} hj => ⟨wipeR_in hj, by rw [← wipeR_out (wipeR_in hj)]; exact hj⟩
  refine ⟨by rw [wipeR_len, wipe_length]; exact r.len, r.ft, fun j t e hj hm => ?_, fun j t e hj hm => ?_, fun j k t e t' e' a hj hm hk hm' hv hv' => ?_⟩
  · rw [wipe_at (g hj).1]; exact r.rd j t e (g hj).2 hm
  · rw [wipe_at (g hj).1]; exact r.ow j t e (g hj).2 hm
  · rw [wipe_at (g hj).1] at hv
    rw [wipe_at (g hk).1] at hv'
    exact r.ap j k _ _ _ _ a (g hj).2 hm (g hk).2 hm' hv hv'
theorem wipe_own {vs : List Nat} {a : Addr} (q : OwnA (wipeR ρ vs) (wipe σ vs) a) : OwnA ρ σ a ∧ ∃ (j : Nat), j ∉ vs ∧ σ[j]? = some (some (V.ref a)) ∧ ∃ s d, ρ[j]? = some (some (s, d)) ∧ s.mut = true := by
  obtain ⟨j, t, e, hj, hm, hv⟩ := q
  have n := wipeR_in hj
  rw [wipeR_out n] at hj
  rw [wipe_at n] at hv
  exact ⟨⟨j, t, e, hj, hm, hv⟩, j, n, hv, t, e, hj, hm⟩
/-- behind the block: its names are again what they were -/
theorem block_back (r : Rel K F H ρ σ) {vs : List Nat} (r2 : Rel K F' H' ρ2 (wipe σ vs)) (s2 : EStep F H (wipeR ρ vs) (wipe σ vs) F' H' ρ2) : Rel K F' H' (unwipe ρ ρ2 vs) σ ∧ EStep F H ρ σ F' H' (unwipe ρ ρ2 vs) := by
  have rw0 := r.wipe vs
  have kp := s2.1.keep rw0
  have hl : ρ2.length = ρ.length := by rw [r2.len, wipe_length, r.len]
  have g : ∀ {j : Nat} {t : Stt} {e : PV}, (unwipe ρ ρ2 vs)[j]? = some (some (t, e)) → (j ∈ vs ∧ ρ[j]? = some (some (t, e))) ∨ (j ∉ vs ∧ ρ2[j]? = some (some (t, e))) := fun {j t e} hj => by
    by_cases c : j ∈ vs
    · rw [unwipe_in ρ hl c] at hj; exact .inl ⟨c, hj⟩
    · rw [unwipe_out ρ c] at hj; exact .inr ⟨c, hj⟩
  have old : ∀ {j : Nat} {t : Stt} {e : PV}, (unwipe ρ ρ2 vs)[j]? = some (some (t, e)) → t.mut = true → ∃ d0, ρ[j]? = some (some (t, d0)) := fun {j t e} hj hm => by
    rcases g hj with ⟨c, h1⟩ | ⟨c, h1⟩
    · exact ⟨e, h1⟩
    · obtain ⟨d0, h0⟩ := s2.2 j t e h1 hm
      rw [wipeR_out c] at h0
      exact ⟨d0, h0⟩
  refine ⟨⟨by rw [unwipe_len, hl]; exact r.len, r2.ft, fun j t e hj hm => ?_, fun j t e hj hm => ?_, fun j k t e t' e' a hj hm hk hm' hv hv' => ?_⟩, ⟨⟨fun b u hb n => s2.1.fr b u hb fun q => n (wipe_own q).1, s2.1.al, s2.1.ff, fun b f => (s2.1.fn b f).imp_right fun z => z.imp_right fun q => (wipe_own q).1, fun b q => ?_, fun j t e hj hp => ?_⟩, fun j t e hj hm => old hj hm⟩⟩
  · rcases g hj with ⟨c, h1⟩ | ⟨c, h1⟩
    · obtain ⟨v, q1, q2⟩ := r.rd j t e h1 hm
      exact ⟨v, q1, q2.keep s2.1.ff kp⟩
    · have := r2.rd j t e h1 hm
      rw [wipe_at c] at this
      exact this
  · rcases g hj with ⟨c, h1⟩ | ⟨c, h1⟩
    · obtain ⟨a, q1, q2⟩ := r.ow j t e h1 hm
      refine ⟨a, q1, q2.step rw0 s2.1 fun q => ?_⟩
      obtain ⟨_, k, n, hk, s, d, q3, q4⟩ := wipe_own q
      have : j = k := r.ap j k _ _ _ _ a h1 hm q3 q4 q1 hk
      subst this
      exact n c
    · have := r2.ow j t e h1 hm
      rw [wipe_at c] at this
      exact this
  · obtain ⟨d0, h0⟩ := old hj hm
    obtain ⟨d1, h1⟩ := old hk hm'
    exact r.ap j k _ _ _ _ a h0 hm h1 hm' hv hv'
  · obtain ⟨j, t, e, hj, hm, hv⟩ := q
    obtain ⟨d0, h0⟩ := old hj hm
    exact .inl ⟨j, t, d0, h0, hm, hv⟩
  · refine ⟨rfl, ?_⟩
    rcases g hj with ⟨c, h1⟩ | ⟨c, h1⟩
    · exact ⟨t, e, h1, hp, .inl rfl⟩
    · obtain ⟨_, s0, d0, q3, q4, q5⟩ := s2.1.pn j t e h1 hp
      rw [wipeR_out c] at q3
      exact ⟨s0, d0, q3, q4, q5⟩
end
end Cw
set_option Elab.async false
set_option linter.all false
set_option maxRecDepth 100000
set_option maxHeartbeats 4000000
set_option autoImplicit false
/-! Cw, part P: iterables as readings -/
namespace Cw
open PySem L2

section
variable {X : Cx} {EA : Nat → Addr} {W : WX} {C : CallSem} {σ : L2.St} {F F' : FS} {H H' : Hp} {ρ ρ' : Rho} {a b c tg : Expr} {ia ib ic : IE} {pos p : Pos} {es : List Expr} {ies : List IE} {x : Str}
/-- the object of the lent name -/
def lentA (ik : Ik) (its : List IE) (ρ : Rho) (σ : L2.St) (a : Addr) : Prop := ∃ (i : Nat) (s : Stt) (d : PV), lendI ik its = some i ∧ ρ[i]? = some (some (s, d)) ∧ s.mut = true ∧ σ[i]? = some (some (V.ref a))
/-- a walk, whatever else may change -/
def AllW (K : PySem.W.Frag) (F : FS) (H : Hp) (L : Addr → Prop) (J : It) (ds : List PV) : Prop := ∀ own : Addr → Prop, (∀ a, F a → ¬ own a) → (∀ a, L a → ¬ own a) → Walk K F H own J ds
/-- what is walked -/
def iR (K : PySem.W.Frag) (EA : Nat → Addr) (W : WX) (C : CallSem) (ik : Ik) (its : List IE) : TI := fun σ H R => ∃ F ρ, Rel K F H ρ σ ∧ post K EA W σ F H ρ (itR ik its (evL C its ρ) ρ) fun ds F' H' ρ' => ∀ J, AllW K F' H' (lentA ik its ρ' σ) J ds → R J H'
theorem PI.imp' {e : Expr} {t t' : TI} (h : PI X tg e t) (i : ∀ σ H Q, t' σ H Q → t σ H Q) : PI X tg e t' := ⟨fun pins s σ H Q I q => h.run pins s σ H Q I (i σ H Q q)⟩
def iSeq (K : PySem.W.Frag) (tl : TE) : TI := fun σ H R => tl σ H fun x H1 => ∃ a, x = .ref a ∧ (((∃ xs, SqL K H1 a xs) ∧ R (Itl K a) H1) ∨ ((∃ xs, SqT K H1 a xs) ∧ R (Itt K a) H1))
theorem pi_seq {tl : TE} (hl : PE X a tl) : PI X tg a (iSeq X.K tl) := by
  refine ⟨fun pins s σ H R I h => thn (hl.run pins s σ H _ I h) fun v s1 q1 => ?_⟩
  obtain ⟨x, H1, I1, r1, l, ex, q⟩ := q1
  subst ex
  cases r1
  have fresh : ∀ b ∈ [s1.heap.objs.size], FpOk X pins H1 b := fun b hb => by
    cases List.mem_singleton.mp hb
    exact I1.fpOk (Nat.le_refl _) (I1.hok.fresh (Nat.le_refl _))
  rcases q with ⟨⟨xs, hq⟩, q⟩ | ⟨⟨xs, hq⟩, q⟩
  · obtain ⟨its, rv, pl, hz⟩ := I1.list hq
    exact wpAny_pyIter_list pl.isList ⟨_, [s1.heap.objs.size], _, _, H1, rfl, I1.kept (t' := s1.toks) fun b o e => Heap.get?_push_of_some _ e, turn_list l _, ⟨_, Heap.get?_push_size _ rfl, rfl, rfl⟩, fresh, q⟩
  · obtain ⟨its, rv, pl, hz⟩ := I1.tuple hq
    exact wpAny_pyIter_tuple (show s1.heap.IsTuple l its.toArray from pl) ⟨_, [s1.heap.objs.size], _, _, H1, rfl, I1.kept (t' := s1.toks) fun b o e => Heap.get?_push_of_some _ e, turn_tuple l _, ⟨_, Heap.get?_push_size _ rfl, rfl, rfl⟩, fresh, q⟩
/-- a shared list or tuple is walked -/
theorem seq_walk {K : PySem.W.Frag} {L : Addr → Prop} {d : PV} {ds : List PV} {v : V} (e : seqOf d = some ds) (h : Rep K F H d v) {R : It → Hp → Prop} (q : ∀ J, AllW K F H L J ds → R J H) :
    ∃ a, v = .ref a ∧ (((∃ xs, SqL K H a xs) ∧ R (Itl K a) H) ∨ ((∃ xs, SqT K H a xs) ∧ R (Itt K a) H)) := by
  cases d <;> first | (cases e; done) | skip
  · cases e
    obtain ⟨l, xs, ev, hf, hr⟩ := h
    exact ⟨l, ev, .inr ⟨⟨xs, hf.seq⟩, q _ fun own hn _ => walk_tup hn (hn l hf.1) hf.2 hr⟩⟩
  · cases e
    obtain ⟨l, xs, ev, hf, hr⟩ := h
    exact ⟨l, ev, .inl ⟨⟨xs, hf.seq⟩, q _ fun own hn _ => walk_lst hn (hn l hf.1) hf.2 hr⟩⟩
theorem lent_own (r : Rel X.K F H ρ σ) {ik : Ik} {its : List IE} {a : Addr} (h : lentA ik its ρ σ a) : ¬ OwnA (lendR ik its ρ) σ a := by
  obtain ⟨i, s, d, ei, e, m, hv⟩ := h
  have : lendR ik its ρ = ρ.set i (some (.lnt, d)) := by
    unfold lendR
    rw [ei]
    dsimp only
    rw [e]
    dsimp only
    rw [if_pos m]
  rw [this]
  exact lnt_free r e m hv
theorem lend_not {ik : Ik} (h : ik ≠ Ik.lend) {its : List IE} : lendR ik its ρ = ρ := by
  unfold lendR lendI
  split
  · rename_i i e
    split at e
    · exact absurd rfl h
    · cases e
  · rfl
theorem pi_s (ha : Snd X EA W C a ia) : PI X tg a (iR X.K EA W C .seq [ia]) := by
  refine PI.imp' (pi_seq ha.v) fun σ H R h => ?_
  obtain ⟨F, ρ, r, h⟩ := h
  simp only [itR, evL] at h
  refine ⟨F, ρ, r, (post.bind (post.bind h)).mono fun x F1 H1 ρ1 g1 s1 h1 v rv => ?_⟩
  obtain ⟨G, rG, sG, rep, _⟩ := share r s1 g1 rv
  have h2 := ((h1 G rG sG).bind.here rG G rG .refl).here rG G rG sG
  obtain ⟨ds, e, q⟩ := h2.opt rG
  exact seq_walk e rep q
theorem pi_l {i : Nat} (hN : X.N[i]? = some x) (hv : Vis X.env.scope x) (hd : (x == ("__debug__" : Str)) = false) (hcd : (x == ("__classdict__" : Str)) = false) : PI X tg (.Name x pos) (iR X.K EA W C .lend [.var i]) := by
  refine PI.imp' (pi_seq (pe_var (X := X) (pos := pos) hN hv hd hcd)) fun σ H Rr h => ?_
  obtain ⟨F, ρ, r, h⟩ := h
  simp only [itR, peekV] at h
  split at h
  · exact h.elim
  · rename_i s d hne e
    obtain ⟨v, e1⟩ := slot_val r e hne
    have h : post X.K EA W σ F H ρ (R.opt (itV .lend [d]) ρ) (fun ds F' H' ρ' => ∀ J, AllW X.K F' H' (lentA .lend [.var i] ρ' σ) J ds → Rr J H') := h
    obtain ⟨ds, es, q⟩ := h.opt r
    refine ⟨v, e1, ?_⟩
    have es : seqOf d = some ds := es
    cases m : s.mut with
    | false =>
      have hsh : s.shr = true := by cases s <;> first | rfl | (cases m; done) | exact absurd rfl hne
      obtain ⟨w, e2, e3⟩ := r.rd i s d e hsh
      rw [e1] at e2
      cases e2
      exact seq_walk es e3 q
    | true =>
      obtain ⟨l, e2, o⟩ := r.ow i s d e m
      rw [e1] at e2
      cases e2
      obtain ⟨_, o⟩ := o
      cases d <;> first | (cases es; done) | (exact o.elim) | skip
      cases es
      obtain ⟨ws, h1, h2⟩ := o
      exact ⟨l, rfl, .inl ⟨⟨ws, .inl (.inl h1)⟩, q _ fun own hn hl => walk_lst hn (hl l ⟨i, s, _, rfl, e, m, e1⟩) h1 h2⟩⟩
  · exact h.elim
theorem starEach_nil (env : PySem.Env) : starEach [] env = [] := rfl
theorem NoStar.one {e : Expr} (h : NoStar e) (env : PySem.Env) : starEach [e] env = [(false, eval e env)] := h [] env
theorem rng_at {n : Nat} {lo : Int} {i : Nat} {d : PV} (h : ((List.range n).map fun k : Nat => PV.int (lo + (k : Int)))[i]? = some d) : d = .int (lo + (i : Nat)) := by
  rw [List.getElem?_map] at h
  cases e : (List.range n)[i]? with
  | none => rw [e] at h; cases h
  | some k =>
    rw [e] at h
    cases h
    obtain ⟨hk, hk2⟩ := List.getElem?_eq_some_iff.mp e
    rw [List.getElem_range] at hk2
    rw [hk2]
theorem pi_r1 (hg : Gl X "range") (hm : X.mg "range" = none) (ha : Snd X EA W C a ia) (hs : NoStar a) : PI X tg (.Call (.Name "range" p) [a] [] pos) (iR X.K EA W C .range1 [ia]) := by
  refine PI.imp' (pi_range1 hg hm (SndL.cons ha hs .nil).pa (hs.one _)) fun σ H R h => ?_
  obtain ⟨F, ρ, r, h⟩ := h
  simp only [itR] at h
  refine ⟨F, ρ, r, h.bind.mono fun ds F1 H1 ρ1 g1 s1 h1 vs rvs => ?_⟩
  obtain ⟨zs, e, q⟩ := (h1 F1 g1 s1).opt g1
  unfold itV at e
  split at e <;> first | (rename_i hh; cases hh; done) | skip
  all_goals first | (cases e; done) | skip
  rename_i j _
  split at e
  · rename_i c
    cases e
    obtain ⟨v, t, rfl, rv, rt⟩ := rvs
    cases rt
    have ev : v = .int j := rv
    subst ev
    refine ⟨j, rfl, c.1, c.2, q _ fun own _ _ => walk_rng (by simp) fun i d h => ?_⟩
    have : ((List.range j.toNat).map fun k : Nat => PV.int (k : Int)) = (List.range j.toNat).map fun k : Nat => PV.int (0 + (k : Int)) := by simp
    rw [this] at h
    exact rng_at h
  · cases e
theorem pi_r2 (hg : Gl X "range") (hm : X.mg "range" = none) (ha : Snd X EA W C a ia) (hs : NoStar a) (hb : Snd X EA W C b ib) (hs' : NoStar b) : PI X tg (.Call (.Name "range" p) [a, b] [] pos) (iR X.K EA W C .range2 [ia, ib]) := by
  refine PI.imp' (pi_range2 hg hm (SndL.cons ha hs (.cons hb hs' .nil)).pa (by rw [hs [b] X.env, hs'.one]) (hs'.one _)) fun σ H R h => ?_
  obtain ⟨F, ρ, r, h⟩ := h
  simp only [itR] at h
  refine ⟨F, ρ, r, h.bind.mono fun ds F1 H1 ρ1 g1 s1 h1 vs rvs => ?_⟩
  obtain ⟨zs, e, q⟩ := (h1 F1 g1 s1).opt g1
  unfold itV at e
  split at e <;> first | (rename_i hh; cases hh; done) | skip
  all_goals first | (cases e; done) | skip
  rename_i i j _
  split at e
  · rename_i c
    cases e
    obtain ⟨v, t, rfl, rv, v2, t2, rfl, rv2, rt⟩ := rvs
    cases rt
    have ev : v = .int i := rv
    have ev2 : v2 = .int j := rv2
    subst ev ev2
    exact ⟨i, j, rfl, ⟨c.1.1, c.1.2, c.2.1, c.2.2⟩, q _ fun own _ _ => walk_rng (by simp) fun k d h => rng_at h⟩
  · cases e
theorem pi_z {elts : List Expr} {kk : Nat} {tpos : Pos} (hg : Gl X "zip") (hm : X.mg "zip" = none) (ha : Snd X EA W C a ia) (hs : NoStar a) (hb : Snd X EA W C b ib) (hs' : NoStar b) : PI X (.Tuple elts kk tpos) (.Call (.Name "zip" p) [a, b] [] pos) (iR X.K EA W C .zip [ia, ib]) := by
  refine PI.imp' (pi_zipB hg hm (SndL.cons ha hs (.cons hb hs' .nil)).pa (hs [b] X.env) (by rw [hs'.one]; rfl)) fun σ H R h => ?_
  obtain ⟨F, ρ, r, h⟩ := h
  simp only [itR] at h
  refine ⟨F, ρ, r, h.bind.mono fun ds F1 H1 ρ1 g1 s1 h1 vs rvs => ?_⟩
  obtain ⟨zs, e, q⟩ := (h1 F1 g1 s1).opt g1
  unfold itV at e
  split at e <;> first | (rename_i hh; cases hh; done) | skip
  all_goals first | (cases e; done) | skip
  all_goals
    cases e
    obtain ⟨v, t, rfl, rv, v2, t2, rfl, rv2, rt⟩ := rvs
    cases rt
    obtain ⟨l1, xs1, rfl, f1, r1⟩ := rv
    obtain ⟨l2, xs2, rfl, f2, r2⟩ := rv2
  · exact ⟨l1, l2, xs1, xs2, rfl, .inl ⟨f1.seq, f2.seq, q _ fun own hn _ => walk_zipL hn (hn _ f1.1) (hn _ f2.1) f1.2 f2.2 r1 r2⟩⟩
  · exact ⟨l1, l2, xs1, xs2, rfl, .inr (.inl ⟨f1.seq, f2.seq, q _ fun own hn _ => walk_zipT hn (hn _ f1.1) (hn _ f2.1) f1.2 f2.2 r1 r2⟩)⟩
  · exact ⟨l1, l2, xs1, xs2, rfl, .inr (.inr ⟨f1.seq, f2.seq, q _ fun own hn _ => walk_zipM hn (hn _ f1.1) (hn _ f2.1) f1.2 f2.2 r1 r2⟩)⟩
theorem pi_e {elts : List Expr} {kk : Nat} {tpos : Pos} (hg : Gl X "enumerate") (hm : X.mg "enumerate" = none) (ha : Snd X EA W C a ia) (hs : NoStar a) : PI X (.Tuple elts kk tpos) (.Call (.Name "enumerate" p) [a] [] pos) (iR X.K EA W C .enum [ia]) := by
  refine PI.imp' (pi_enum hg hm (SndL.cons ha hs .nil).pa (hs.one _)) fun σ H R h => ?_
  obtain ⟨F, ρ, r, h⟩ := h
  simp only [itR] at h
  refine ⟨F, ρ, r, h.bind.mono fun ds F1 H1 ρ1 g1 s1 h1 vs rvs => ?_⟩
  obtain ⟨zs, e, q⟩ := (h1 F1 g1 s1).opt g1
  unfold itV at e
  split at e <;> first | (rename_i hh; cases hh; done) | skip
  all_goals first | (cases e; done) | skip
  cases e
  obtain ⟨v, t, rfl, rv, rt⟩ := rvs
  cases rt
  obtain ⟨l1, xs1, rfl, f1, r1⟩ := rv
  exact ⟨l1, xs1, rfl, f1.seq, q _ fun own hn _ => walk_enum hn (hn _ f1.1) f1.2 r1⟩
end
end Cw
set_option Elab.async false
set_option linter.all false
set_option maxRecDepth 100000
set_option maxHeartbeats 4000000
set_option autoImplicit false
/-! Cw, part Q: targets, comprehensions -/
namespace Cw
open PySem L2

/-- names are bound: the slots at ids are new, shared; the others stand -/
structure Bnd (ids : List Nat) (ρ : Rho) (σ : L2.St) (ρ' : Rho) (σ' : L2.St) : Prop where
  len : σ'.length = σ.length
  out : ∀ j : Nat, j ∉ ids → ρ'[j]? = ρ[j]? ∧ σ'[j]? = σ[j]?
  sh : ∀ (j : Nat) s d, j ∈ ids → ρ'[j]? = some (some (s, d)) → s = .sh
section
variable {K : PySem.W.Frag} {σ σ' σ2 : L2.St} {F F' : FS} {H H' : Hp} {ρ ρ' ρ2 : Rho} {ids ids2 own : List Nat}
theorem Bnd.trans (a : Bnd ids ρ σ ρ' σ') {ρ3 : Rho} {σ3 : L2.St} (b : Bnd ids2 ρ' σ' ρ3 σ3) : Bnd (ids ++ ids2) ρ σ ρ3 σ3 where
  len := b.len.trans a.len
  out := fun j h => by
    rw [List.mem_append, not_or] at h
    obtain ⟨h1, h2⟩ := a.out j h.1
    obtain ⟨h3, h4⟩ := b.out j h.2
    exact ⟨h3.trans h1, h4.trans h2⟩
  sh := fun j s d h e => by
    by_cases c : j ∈ ids2
    · exact b.sh j s d c e
    · rw [(b.out j c).1] at e
      exact a.sh j s d ((List.mem_append.mp h).resolve_right c) e
theorem Bnd.refl : Bnd [] ρ σ ρ σ := ⟨rfl, fun _ _ => ⟨rfl, rfl⟩, fun _ _ _ h => nomatch h⟩
theorem Bnd.old (b : Bnd ids ρ σ ρ' σ') {j : Nat} {s : Stt} {d : PV} (h : ρ'[j]? = some (some (s, d))) (hs : s ≠ .sh) : j ∉ ids ∧ ρ[j]? = some (some (s, d)) ∧ σ'[j]? = σ[j]? := by
  have c : j ∉ ids := fun z => hs (b.sh j s d z h)
  obtain ⟨h1, h2⟩ := b.out j c
  exact ⟨c, by rw [← h1]; exact h, h2⟩
theorem mut_ne {s : Stt} (m : s.mut = true) : s ≠ .sh := fun z => by subst z; cases m
theorem pin_ne {s : Stt} (m : s.pin = true) : s ≠ .sh := fun z => by subst z; cases m
theorem Bnd.ownB (b : Bnd ids ρ σ ρ' σ') {a : Addr} (q : OwnA ρ' σ' a) : OwnA ρ σ a := by
  obtain ⟨j, s, d, h, m, hv⟩ := q
  obtain ⟨_, h1, h2⟩ := b.old h (mut_ne m)
  exact ⟨j, s, d, h1, m, by rw [← h2]; exact hv⟩
theorem Bnd.step (b : Bnd ids ρ σ ρ' σ') : Step F H ρ σ F H ρ' σ' :=
  ⟨fun _ _ h _ => h, fun _ h => h, fun _ h => h, fun _ h => .inl h, fun _ h => .inl (b.ownB h), fun j s d h p => by
    obtain ⟨_, h1, h2⟩ := b.old h (pin_ne p)
    exact ⟨h2, s, d, h1, p, .inl rfl⟩⟩
theorem Rel.setSh (r : Rel K F H ρ σ) {i : Nat} {x : Slot} (hi : ρ[i]? = some x) {d : PV} {v : V} (h : Rep K F H d v) : Rel K F H (ρ.set i (some (.sh, d))) (σ.set i (some v)) ∧ Bnd [i] ρ σ (ρ.set i (some (.sh, d))) (σ.set i (some v)) := by
  have hl : i < σ.length := by
    rw [← r.len]
    rcases Nat.lt_or_ge i ρ.length with z | z
    · exact z
    · rw [List.getElem?_eq_none z] at hi; cases hi
  have hs := set_at (x := some (.sh, d)) hi
  have hv : (σ.set i (some v))[i]? = some (some v) := List.getElem?_set_self hl
  have g : ∀ {j : Nat} {t : Stt} {e : PV}, (ρ.set i (some (.sh, d)))[j]? = some (some (t, e)) → t.mut = true → i ≠ j ∧ ρ[j]? = some (some (t, e)) := fun {j t e} hj m => by
    by_cases c : i = j
    · subst c; rw [hs] at hj; cases hj; cases m
    · rw [set_ne c] at hj; exact ⟨c, hj⟩
  refine ⟨⟨by rw [List.length_set, List.length_set]; exact r.len, r.ft, fun j t e hj hm => ?_, fun j t e hj hm => ?_, fun j k t e t' e' a hj hm hk hm' hv hv' => ?_⟩, by rw [List.length_set], fun j hj => ?_, fun j t e hj q => ?_⟩
  · by_cases c : i = j
    · subst c; rw [hs] at hj; cases hj; exact ⟨v, hv, h⟩
    · rw [set_ne c] at hj
      rw [List.getElem?_set_ne c]; exact r.rd j t e hj hm
  · obtain ⟨c, h1⟩ := g hj hm
    rw [List.getElem?_set_ne c]; exact r.ow j t e h1 hm
  · obtain ⟨c, h1⟩ := g hj hm
    obtain ⟨c', h1'⟩ := g hk hm'
    rw [List.getElem?_set_ne c] at hv
    rw [List.getElem?_set_ne c'] at hv'
    exact r.ap j k _ _ _ _ a h1 hm h1' hm' hv hv'
  · have c : i ≠ j := fun z => hj (by subst z; simp)
    exact ⟨set_ne c, List.getElem?_set_ne c⟩
  · have c : i = j := (List.mem_singleton.mp hj).symm
    subst c
    rw [hs] at q; cases q; rfl

/-! ### targets -/
def gT (K : PySem.W.Frag) (tg : Tg) : TG := fun v σ H Q => ∃ F ρ d, Rel K F H ρ σ ∧ Rep K F H d v ∧ ∃ ρ', bindT tg d ρ = .ok () ρ' ∧ ∀ σ', Rel K F H ρ' σ' → Bnd tg.ids ρ σ ρ' σ' → Q σ' H
def gTs (K : PySem.W.Frag) (tgs : List Tg) : TGs := fun vs σ H Q => ∃ F ρ ds, Rel K F H ρ σ ∧ Reps K F H ds vs ∧ ds.length = tgs.length ∧ ∃ ρ', bindTs tgs ds ρ = .ok () ρ' ∧ ∀ σ', Rel K F H ρ' σ' → Bnd (Tg.idss tgs) ρ σ ρ' σ' → Q σ' H
end
section
variable {X : Cx} {σ : L2.St} {F F' : FS} {H H' : Hp} {ρ ρ' : Rho} {pos : Pos} {x : Str} {e : Expr} {es : List Expr}
theorem PG.imp' {e : Expr} {t t' : TG} (h : PG X e t) (i : ∀ v σ H Q, t' v σ H Q → t v σ H Q) : PG X e t' := ⟨fun pins s σ H v u Q I r q => h.run pins s σ H v u Q I r (i v σ H Q q)⟩
theorem PGs.imp' {e : List Expr} {t t' : TGs} (h : PGs X e t) (i : ∀ v σ H Q, t' v σ H Q → t v σ H Q) : PGs X e t' := ⟨fun pins s σ H v u Q I r q => h.run pins s σ H v u Q I r (i v σ H Q q)⟩
theorem setV_ok {i : Nat} {fr : Bool} {d : PV} (h : setV i fr d ρ = .ok () ρ') : (∃ x, ρ[i]? = some x) ∧ ρ' = ρ.set i (some (if fr then .own else .sh, d)) ∧ ∀ s d0, ρ[i]? = some (some (s, d0)) → s.pin = false := by
  unfold setV at h
  split at h <;> first | (cases h; done) | skip
  rename_i x n1 n2 n3 e
  cases h
  refine ⟨⟨x, e⟩, rfl, fun s d0 q => ?_⟩
  rw [q] at e
  cases e
  cases s <;> first | rfl | exact absurd rfl (n1 _) | exact absurd rfl (n2 _) | exact absurd rfl (n3 _)
theorem pgT_name {i : Nat} (hN : X.N.Nodup) (hi : X.N[i]? = some x) (hx : Loc X.env.scope x) (hf : X.fn x = true ∨ X.env.scope.names.lookup x = some .local) : PG X (.Name x pos) (gT X.K (.name i)) := by
  refine PG.imp' (pg_name hN hi hx hf) fun v σ H Q h => ?_
  obtain ⟨F, ρ, d, r, rp, ρ', e, q⟩ := h
  unfold bindT at e
  obtain ⟨⟨y, hy⟩, rfl, hp⟩ := setV_ok e
  obtain ⟨r2, b⟩ := r.setSh hy rp
  exact q _ r2 b
theorem pgsT_nil : PGs X [] (gTs X.K []) := by
  refine PGs.imp' pgs_nil fun vs σ H Q h => ?_
  obtain ⟨F, ρ, ds, r, rp, hl, ρ', e, q⟩ := h
  cases ds with
  | nil =>
    unfold bindTs at e
    cases e
    exact ⟨rp, q σ r .refl⟩
  | cons _ _ => cases hl
theorem pgsT_cons {t : Tg} {ts : List Tg} (h1 : PG X e (gT X.K t)) (h2 : PGs X es (gTs X.K ts)) (hs : (assignEach (e :: es) X.env).map (·.2) = assign e X.env :: (assignEach es X.env).map (·.2)) : PGs X (e :: es) (gTs X.K (t :: ts)) := by
  refine PGs.imp' (pgs_cons h1 h2 hs) fun vs σ H Q h => ?_
  obtain ⟨F, ρ, ds, r, rp, hl, ρ', e, q⟩ := h
  cases ds with
  | nil => cases hl
  | cons d ds =>
    obtain ⟨v, w, ev, rv, rw'⟩ := rp
    unfold bindTs at e
    obtain ⟨⟨⟩, ρ1, e1, e2⟩ := bind_inv e
    refine ⟨v, w, ev, F, ρ, d, r, rv, ρ1, e1, fun σ1 r1 b1 => ⟨F, ρ1, ds, r1, rw', by simpa using hl, ρ', e2, fun σ2 r2 b2 => q σ2 r2 ?_⟩⟩
    unfold Tg.idss
    exact b1.trans b2
theorem pgT_tup {k : Nat} {ts : List Tg} (hc : X.calm = true) (h : PGs X es (gTs X.K ts)) (hl : es.length = ts.length) (hn : (assignEach es X.env).length = es.length) (hst : (assignEach es X.env).findIdx? (·.1) = none) : PG X (.Tuple es k pos) (gT X.K (.tup ts)) := by
  refine PG.imp' (pg_tup hc h hn hst) fun v σ H Q h => ?_
  obtain ⟨F, ρ, d, r, rp, ρ', e, q⟩ := h
  unfold bindT at e
  split at e
  · rename_i ds
    split at e
    · rename_i hds
      obtain ⟨a, vs, ev, hf, hr⟩ := rp
      refine ⟨a, vs, ev, hf.seq, by rw [hr.len, hds, hl], F, ρ, ds, r, hr, hds, ρ', e, fun σ' r' b => q σ' r' ?_⟩
      unfold Tg.ids
      exact b
    · cases e
  · cases e
end

/-! ### the block's slots -/
section
variable {K : PySem.W.Frag} {σ σ' σ2 σw : L2.St} {F F' F0 : FS} {H H' H0 : Hp} {ρ ρ' ρb ρd ρ0 : Rho} {ids own : List Nat}
theorem wipe_in : ∀ {vs : List Nat} {σ : L2.St} {j : Nat}, j ∈ vs → (wipe σ vs)[j]? = if j < σ.length then some none else none
  | [], _, _, h => nomatch h
  | v :: vs, σ, j, h => by
    unfold L2.wipe
    by_cases c : v = j
    · subst c
      by_cases hv : v < σ.length
      · rw [List.getElem?_set_self (by rw [wipe_length]; exact hv), if_pos hv]
      · rw [List.getElem?_eq_none (by rw [List.length_set, wipe_length]; omega), if_neg hv]
    · rw [List.getElem?_set_ne c]
      rcases List.mem_cons.mp h with h | h
      · exact absurd h.symm c
      · exact wipe_in h
theorem wipe_ext {vs : List Nat} (hl : σ'.length = σ.length) (h : ∀ j : Nat, j ∉ vs → σ'[j]? = σ[j]?) : wipe σ' vs = wipe σ vs := by
  refine List.ext_getElem? fun j => ?_
  by_cases c : j ∈ vs
  · rw [wipe_in c, wipe_in c, hl]
  · rw [wipe_at c, wipe_at c]; exact h j c
theorem wipe_idem (σ : L2.St) (vs : List Nat) : wipe (wipe σ vs) vs = wipe σ vs := wipe_ext (wipe_length σ vs) fun j h => wipe_at h
theorem Bnd.wipe (b : Bnd ids ρ σ ρ' σ') {vs : List Nat} (h : ∀ i ∈ ids, i ∈ vs) : wipe σ' vs = wipe σ vs := wipe_ext b.len fun j c => (b.out j fun z => c (h j z)).2
theorem wipeR_in0 : ∀ {vs : List Nat} {ρ : Rho} {j : Nat}, j ∈ vs → (wipeR ρ vs)[j]? = if j < ρ.length then some none else none
  | [], _, _, h => nomatch h
  | v :: vs, ρ, j, h => by
    unfold wipeR
    by_cases c : v = j
    · subst c
      by_cases hv : v < ρ.length
      · rw [List.getElem?_set_self (by rw [wipeR_len]; exact hv), if_pos hv]
      · rw [List.getElem?_eq_none (by rw [List.length_set, wipeR_len]; omega), if_neg hv]
    · rw [List.getElem?_set_ne c]
      rcases List.mem_cons.mp h with h | h
      · exact absurd h.symm c
      · exact wipeR_in0 h
theorem wipeR_sub {vs ws : List Nat} (h : ∀ i ∈ ws, i ∈ vs) : wipeR (wipeR ρ ws) vs = wipeR ρ vs := by
  refine List.ext_getElem? fun j => ?_
  by_cases c : j ∈ vs
  · rw [wipeR_in0 c, wipeR_in0 c, wipeR_len]
  · rw [wipeR_out c, wipeR_out c, wipeR_out fun z => c (h j z)]
theorem unwipe_wipe {vs : List Nat} (hl : ρ.length = ρ0.length) : unwipe ρ0 (wipeR ρ vs) vs = unwipe ρ0 ρ vs := by
  refine List.ext_getElem? fun j => ?_
  by_cases c : j ∈ vs
  · rw [unwipe_in ρ0 (by rw [wipeR_len]; exact hl) c, unwipe_in ρ0 hl c]
  · rw [unwipe_out ρ0 c, unwipe_out ρ0 c, wipeR_out c]
/-- behind a turn: the names forgotten again -/
theorem turn_back {own : List Nat} (b : Bnd ids (wipeR ρ own) σw ρb σ2) (hi : ∀ i ∈ ids, i ∈ own) (hw : wipe σw own = σw) (r : Rel K F' H' ρd σ2) (s : EStep F H ρb σ2 F' H' ρd) :
    Rel K F' H' (wipeR ρd own) σw ∧ EStep F H (wipeR ρ own) σw F' H' (wipeR ρd own) := by
  have hw2 : wipe σ2 own = σw := (b.wipe hi).trans hw
  have rw2 := r.wipe own
  rw [hw2] at rw2
  have old : ∀ {j : Nat} {t : Stt} {e : PV}, (wipeR ρd own)[j]? = some (some (t, e)) → j ∉ own ∧ ρd[j]? = some (some (t, e)) ∧ σw[j]? = σ2[j]? := fun {j t e} h => by
    have n := wipeR_in h
    refine ⟨n, by rw [← wipeR_out n]; exact h, ?_⟩
    exact (b.out j fun z => n (hi j z)).2.symm
  have own1 : ∀ a, OwnA (wipeR ρd own) σw a → OwnA ρd σ2 a := fun a q => by
    obtain ⟨j, t, e, h, m, hv⟩ := q
    obtain ⟨_, h1, h2⟩ := old h
    exact ⟨j, t, e, h1, m, by rw [← h2]; exact hv⟩
  refine ⟨rw2, ⟨fun a u h n => s.1.fr a u h fun q => n (b.ownB q), s.1.al, s.1.ff, fun a f => (s.1.fn a f).imp_right fun z => z.imp_right b.ownB, fun a q => (s.1.ow a (own1 a q)).imp_left b.ownB, fun j t e h p => ?_⟩, fun j t e h m => ?_⟩
  · obtain ⟨n, h1, h2⟩ := old h
    obtain ⟨q1, s0, d0, q2, q3, q4⟩ := s.1.pn j t e h1 p
    obtain ⟨_, q5, _⟩ := b.old q2 (pin_ne q3)
    exact ⟨rfl, s0, d0, q5, q3, q4⟩
  · obtain ⟨n, h1, h2⟩ := old h
    obtain ⟨d0, q⟩ := s.2 j t e h1 m
    obtain ⟨_, q5, _⟩ := b.old q (mut_ne m)
    exact ⟨d0, q5⟩
end
end Cw
set_option Elab.async false
set_option linter.all false
set_option maxRecDepth 100000
set_option maxHeartbeats 4000000
set_option autoImplicit false
/-! Cw, part R: comprehensions -/
namespace Cw
open PySem L2

/-- a block lets nothing out -/
abbrev WF : WX := fun _ _ _ _ => False
section
variable {X : Cx} {EA : Nat → Addr} {W : WX} {C : CallSem} {σ : L2.St} {F F' : FS} {H H' : Hp} {ρ ρ' : Rho} {pos : Pos} {elt tgE iter : Expr} {ifs : List Expr} {conds : List IE} {ielt : IE} {tg : Tg} {ik : Ik} {its : List IE} {scope : Scope} {own : List (Str × Nat)}
/-- tests -/
def tCs (K : PySem.W.Frag) (EA : Nat → Addr) (W : WX) (C : CallSem) (conds : List IE) : TT := fun σ H Q => ∃ F ρ, Rel K F H ρ σ ∧ post K EA W σ F H ρ (evC C conds ρ) fun k F' H' _ => Q k H'
theorem PTs.imp' {e : List Expr} {t t' : TT} (h : PTs X e t) (i : ∀ σ H Q, t' σ H Q → t σ H Q) : PTs X e t' := ⟨fun pins s σ H Q I q => h.run pins s σ H Q I (i σ H Q q)⟩
theorem cs_nil : PTs X [] (tCs X.K EA W C []) := PTs.imp' pts_nil fun σ H Q h => by
  obtain ⟨F, ρ, r, h⟩ := h
  exact h.here r
theorem cs_one {c : Expr} {ic : IE} (hc : Snd X EA W C c ic) : PTs X [c] (tCs X.K EA W C [ic]) := PTs.imp' (pts_one hc.t) fun σ H Q h => by
  obtain ⟨F, ρ, r, h⟩ := h
  simp only [evC] at h
  refine ⟨F, ρ, r, h.bind.mono fun x F1 H1 ρ1 g1 s1 h1 => ?_⟩
  obtain ⟨fx, x⟩ := x
  replace h1 := h1 F1 g1 s1
  split at h1
  · rename_i e; simp only at e; subst e; exact ⟨true, rfl, h1.here g1⟩
  · rename_i e; simp only at e; subst e; exact ⟨false, rfl, h1.here g1⟩
  · exact h1.elim
/-- one turn -/
def turnF (C : CallSem) (own : List Nat) (tg : Tg) (conds : List IE) (elt : IE) : PV → Rho → R (Option PV) := fun x ρ2 => (bindT tg x (wipeR ρ2 own)).bind fun _ ρ3 => (evC C conds ρ3).bind fun k ρ4 => if k then (ev C false elt ρ4).bind fun y ρ5 => .ok (some y.2) ρ5 else .ok none ρ4
theorem quiet_ok {α : Type} {r : R α} {a : α} {ρ : Rho} (h : r.quiet = .ok a ρ) : r = .ok a ρ := by
  cases r with
  | ok b ρ' => exact h
  | exc _ _ _ => cases h
  | bad => cases h
theorem quiet_cases {α : Type} (r : R α) : (∃ a ρ, r.quiet = .ok a ρ) ∨ r.quiet = .bad := by
  cases r with
  | ok a ρ => exact .inl ⟨a, ρ, rfl⟩
  | exc _ _ _ => exact .inr rfl
  | bad => exact .inr rfl
theorem drop_cons {α : Type} {xs : List α} {i : Nat} (h : i < xs.length) : xs.drop i = xs[i] :: xs.drop (i + 1) := List.drop_eq_getElem_cons h
/-- what is known of a loop's state between the turns -/
structure LcI (K : PySem.W.Frag) (F1 : FS) (H1 : Hp) (ρl : Rho) (vs : List Nat) (σ : L2.St) (D : Addr) (H : Hp) (F : FS) (ρ : Rho) (acc : List V) (da : List PV) : Prop where
  rel : Rel K F H (wipeR ρ vs) (wipe σ vs)
  est : EStep F1 H1 (wipeR ρl vs) (wipe σ vs) F H (wipeR ρ vs)
  at_ : H D = some (.lst acc)
  reps : Reps K F H da acc
  nF : ¬ F D
/-- a turn's value is kept -/
theorem LcI.push {K : PySem.W.Frag} {F1 F2 F3 : FS} {H1 H2 H3 : Hp} {ρl ρ2 ρ3 : Rho} {vs ids : List Nat} {σ σ2 : L2.St} {D : Addr} {acc : List V} {da : List PV} {ρb : Rho} (hD : H1 D = none) (rl : Rel K F1 H1 ρl σ) (n : LcI K F1 H1 ρl vs σ D H2 F2 ρ2 acc da)
    (b : Bnd ids (wipeR ρ2 vs) (wipe σ vs) ρb σ2) (hi : ∀ i ∈ ids, i ∈ vs) (r : Rel K F3 H3 ρ3 σ2) (s : EStep F2 H2 ρb σ2 F3 H3 ρ3) : LcI K F1 H1 ρl vs σ D H3 F3 ρ3 acc da := by
  obtain ⟨q1, q2⟩ := turn_back b hi (wipe_idem σ vs) r s
  have no : ¬ OwnA (wipeR ρ2 vs) (wipe σ vs) D := EStep.fresh (rl.wipe vs) n.est hD
  have kp := q2.1.keep n.rel
  refine ⟨q1, n.est.trans q2, q2.1.fr D _ n.at_ no, Reps.keep q2.1.ff kp _ _ n.reps, fun f => ?_⟩
  rcases q2.1.fn D f with f | f | f
  · exact n.nF f
  · rw [n.at_] at f; cases f
  · exact no f
theorem LcI.app {K : PySem.W.Frag} {F1 F2 : FS} {H1 H2 : Hp} {ρl ρ2 : Rho} {vs : List Nat} {σ : L2.St} {D : Addr} {acc : List V} {da : List PV} (hD : H1 D = none) (rl : Rel K F1 H1 ρl σ) (n : LcI K F1 H1 ρl vs σ D H2 F2 ρ2 acc da) {d : PV} {v : V} (h : Rep K F2 H2 d v) :
    LcI K F1 H1 ρl vs σ D (upd H2 D (.lst (acc ++ [v]))) F2 ρ2 (acc ++ [v]) (da ++ [d]) := by
  have no : ¬ OwnA (wipeR ρ2 vs) (wipe σ vs) D := EStep.fresh (rl.wipe vs) n.est hD
  exact ⟨n.rel.poke _ n.nF no, EStep.poke _ hD n.est, upd_same, Reps.keep (fun _ z => z) (kp_of n.nF) _ _ (n.reps.app (Reps.one h)), n.nF⟩
def rawLc (C : CallSem) (vs : List Nat) (tg : Tg) (ik : Ik) (its conds : List IE) (elt : IE) : Rho → R (Bool × PV) := fun ρ => (itR ik its (evL C its ρ) ρ).bind fun xs ρ1 => ((compLoop (turnF C vs tg conds elt) xs (lendR ik its ρ1)).quiet).bind fun ds ρ6 =>
        lenOk ds ρ6 (R.back ik its ρ1 (.ok (true, .lst ds) (unwipe (lendR ik its ρ1) ρ6 vs)))
theorem lcp_red {vs : List Nat} (hids : ∀ i ∈ tg.ids, i ∈ vs) {Q : VK} {H : Hp} (h : tRaw X.K EA W (rawLc C vs tg ik its conds ielt) σ H Q) : tLc (iR X.K EA W C ik its) (gT X.K tg) (tCs X.K EA WF C conds) (tRaw X.K EA WF (ev C false ielt)) vs σ H Q := by
  obtain ⟨F, ρ, r, h⟩ := h
  unfold rawLc at h
  refine ⟨F, ρ, r, h.bind.mono fun ds F1 H1 ρ1 g1 s1 h1 J wJ D hD => ?_⟩
  replace h1 := h1 F1 g1 s1
  rcases quiet_cases (compLoop (turnF C vs tg conds ielt) ds (lendR ik its ρ1)) with ⟨out, ρ6, e⟩ | e
  rotate_left
  · rw [e] at h1; exact h1.elim
  rw [e, R.bind_ok] at h1
  replace e := quiet_ok e
  obtain ⟨ho16, h1⟩ : out.length ≤ sizeLine ∧ _ := by
    unfold lenOk at h1
    split at h1
    · rename_i hl; exact ⟨len16 hl, h1⟩
    · exact h1.elim
  unfold R.back at h1
  dsimp only at h1
  cases eb : backR ik its ρ1 (unwipe (lendR ik its ρ1) ρ6 vs) with
  | none => rw [eb] at h1; exact h1.elim
  | some ρ7 =>
  rw [eb] at h1
  dsimp only at h1
  have rl : Rel X.K F1 H1 (lendR ik its ρ1) σ := g1.lend ik its
  replace wJ := wJ (OwnA (lendR ik its ρ1) σ) (fun a f o => (rl.notF o).1 f) (fun a z => lent_own g1 z)
  refine ⟨fun i m H => ∃ F ρ acc da rest, m = ds.length - i ∧ i ≤ ds.length ∧ LcI X.K F1 H1 (lendR ik its ρ1) vs σ D H F ρ acc da ∧ compLoop (turnF C vs tg conds ielt) (ds.drop i) ρ = .ok rest ρ6 ∧ da ++ rest = out, ⟨ds.length, F1, lendR ik its ρ1, [], [], out, rfl, Nat.zero_le _, ⟨(rl.wipe vs).lay hD _, EStep.lay (rl.wipe vs) hD _, upd_same, rfl, fun f => rl.ft D f hD⟩, e, rfl⟩, ?_⟩
  rintro i m H2 ⟨F2, ρ2, acc, da, rest, rfl, hle, n, el, eo⟩
  have aft : Aft F1 H1 (OwnA (lendR ik its ρ1) σ) F2 H2 := ⟨n.est.1.ff, fun a o ha hn => n.est.1.fr a o ha fun q => hn (wipe_own q).1⟩
  by_cases hlt : i < ds.length
  · refine .inr ⟨wJ.go F2 H2 i aft hlt, fun H' => ∃ F ρ acc da rest, i + 1 ≤ ds.length ∧ LcI X.K F1 H1 (lendR ik its ρ1) vs σ D H' F ρ acc da ∧ compLoop (turnF C vs tg conds ielt) (ds.drop (i + 1)) ρ = .ok rest ρ6 ∧ da ++ rest = out,
      fun H' ⟨F, ρ, acc, da, rest, q1, q2, q3, q4⟩ => ⟨ds.length - (i + 1), by omega, F, ρ, acc, da, rest, rfl, q1, q2, q3, q4⟩, fun x H3 y => ?_⟩
    obtain ⟨F3, r3, s3, rep⟩ := wJ.yld F2 H2 (wipeR ρ2 vs) (wipe σ vs) i x H3 _ aft n.rel y (List.getElem?_eq_getElem hlt)
    rw [drop_cons hlt] at el
    unfold compLoop at el
    obtain ⟨o, ρa, e1, el⟩ := bind_inv el
    obtain ⟨rest', ρz, e2, el⟩ := bind_inv el
    cases el
    unfold turnF at e1
    obtain ⟨⟨⟩, ρb, e3, e1⟩ := bind_inv e1
    obtain ⟨k, ρc, e4, e1⟩ := bind_inv e1
    -- the state at the item
    have n3 : LcI X.K F1 H1 (lendR ik its ρ1) vs σ D H3 F3 ρ2 acc da := by
      have no : ¬ OwnA (wipeR ρ2 vs) (wipe σ vs) D := EStep.fresh (rl.wipe vs) n.est hD
      have kp := s3.1.keep n.rel
      refine ⟨r3, n.est.trans s3, s3.1.fr D _ n.at_ no, Reps.keep s3.1.ff kp _ _ n.reps, fun f => ?_⟩
      rcases s3.1.fn D f with f | f | f
      · exact n.nF f
      · rw [n.at_] at f; cases f
      · exact no f
    refine ⟨F3, wipeR ρ2 vs, _, r3, rep, ρb, e3, fun σ2 rb b => ⟨(b.wipe hids).trans (wipe_idem σ vs), F3, ρb, rb, ?_⟩⟩
    rw [e4]
    intro F4 H4 r4 s4
    cases k with
    | false =>
      simp only [Bool.false_eq_true, if_false] at e1 ⊢
      cases e1
      exact ⟨F4, _, acc, da, rest', hlt, n3.push hD rl b hids r4 s4, e2, eo⟩
    | true =>
      simp only [if_true] at e1 ⊢
      obtain ⟨w, ρd, e5, e1⟩ := bind_inv e1
      cases e1
      refine ⟨F4, ρc, r4, ?_⟩
      rw [e5]
      intro F5 H5 r5 s5 v rv
      have n5 := n3.push hD rl b hids r5 (s4.trans s5)
      obtain ⟨G, rG, sG, repG, hFG⟩ := share r4 s5 r5 rv
      have nG := n3.push hD rl b hids rG (s4.trans sG)
      have hlen : acc.length < sizeLine := by
        have h1 := n5.reps.len
        have h2 : da.length + (rest'.length + 1) = out.length := by rw [← eo]; simp
        omega
      exact ⟨acc, n5.at_, hlen, G, _, acc ++ [v], da ++ [w.2], rest', hlt, nG.app hD rl repG, e2, by rw [List.append_assoc]; exact eo⟩
  · have ei : i = ds.length := by omega
    subst ei
    refine .inl ⟨wJ.stop F2 H2 _ aft rfl, ?_⟩
    rw [List.drop_length] at el
    unfold compLoop at el
    cases el
    rw [List.append_nil] at eo
    subst eo
    obtain ⟨q1, q2⟩ := block_back rl n.rel n.est
    have hl6 : ρ6.length = (lendR ik its ρ1).length := by
      have := n.rel.len
      rw [wipeR_len, wipe_length] at this
      rw [this, rl.len]
    rw [unwipe_wipe hl6] at q1 q2
    obtain ⟨q3, q4, q5⟩ := lend_back g1 q1 q2.1 eb
    exact h1 F2 H2 q3 ⟨q4, q5 q2.2⟩ _ ⟨D, rfl, ⟨n.nF, acc, n.at_, n.reps⟩, s1.1.al D hD⟩

theorem snd_lcp (hcalm : X.calm = true) (hN : X.N.Nodup) (hi : PI X tgE iter (iR X.K EA W C ik its)) (ok : BlkOk X.N X.env.scope scope own) (hids : ∀ i ∈ tg.ids, i ∈ own.map (·.2))
    (hg : ∀ (s : Shared) (H : Hp) (Cc : Addr) (cl : List (Str × Addr)) (fp : List Addr), PG (X.blk s H scope (compEnvC scope cl Cc X.env) fp) tgE (gT X.K tg))
    (ht : ∀ (s : Shared) (H : Hp) (Cc : Addr) (cl : List (Str × Addr)) (fp : List Addr), PTs (X.blk s H scope (compEnvC scope cl Cc X.env) fp) ifs (tCs X.K EA WF C conds))
    (he : ∀ (s : Shared) (H : Hp) (Cc : Addr) (cl : List (Str × Addr)) (fp : List Addr), Snd (X.blk s H scope (compEnvC scope cl Cc X.env) fp) EA WF C elt ielt)
    (hs : ∀ x, foldedSetIterable iter X.env x = pure x) : Snd X EA W C (.ListComp elt [⟨tgE, iter, ifs, 0⟩] scope pos) (.lcp (own.map (·.2)) tg ik its conds ielt) := by
  have base := pe_lc (pos := pos) (elt := elt) (te := tRaw X.K EA WF (ev C false ielt)) hcalm hN hi ok hg ht (fun s H Cc cl fp => (he s H Cc cl fp).v) hs
  generalize hvs : own.map (·.2) = vs at hids base ⊢
  exact Snd.of (raw := rawLc C vs tg ik its conds ielt) (fun m ρ => rfl) (fun _ z => nomatch z) (fun _ _ => rfl) (PE.imp' base fun σ H Q h => lcp_red hids h)

/-! ### two clauses -/
def turnF2 (C : CallSem) (own : List Nat) (tg : Tg) (ik2 : Ik) (its2 : List IE) (own2 : List Nat) (tg2 : Tg) (conds2 : List IE) (elt : IE) : PV → Rho → R (List PV) := fun x ρ2 => (bindT tg x (wipeR ρ2 own)).bind fun _ ρ3 => (itR ik2 its2 (evL C its2 ρ3) ρ3).bind fun ys ρ4 =>
          compLoop (turnF C own2 tg2 conds2 elt) ys ρ4
theorem LcI.wJ {K : PySem.W.Frag} {F1 F : FS} {H1 H : Hp} {ρl ρ : Rho} {vs : List Nat} {σ : L2.St} {D : Addr} {acc : List V} {da : List PV} (n : LcI K F1 H1 ρl vs σ D H F ρ acc da) : Aft F1 H1 (OwnA ρl σ) F H :=
  ⟨n.est.1.ff, fun a o ha hn => n.est.1.fr a o ha fun q => hn (wipe_own q).1⟩
/-- an item has come -/
theorem LcI.item {K : PySem.W.Frag} {F1 F2 F3 : FS} {H1 H2 H3 : Hp} {ρl ρ2 : Rho} {vs : List Nat} {σ : L2.St} {D : Addr} {acc : List V} {da : List PV} (hD : H1 D = none) (rl : Rel K F1 H1 ρl σ) (n : LcI K F1 H1 ρl vs σ D H2 F2 ρ2 acc da)
    (r3 : Rel K F3 H3 (wipeR ρ2 vs) (wipe σ vs)) (s3 : EStep F2 H2 (wipeR ρ2 vs) (wipe σ vs) F3 H3 (wipeR ρ2 vs)) : LcI K F1 H1 ρl vs σ D H3 F3 ρ2 acc da := by
  have no : ¬ OwnA (wipeR ρ2 vs) (wipe σ vs) D := EStep.fresh (rl.wipe vs) n.est hD
  have kp := s3.1.keep n.rel
  refine ⟨r3, n.est.trans s3, s3.1.fr D _ n.at_ no, Reps.keep s3.1.ff kp _ _ n.reps, fun f => ?_⟩
  rcases s3.1.fn D f with f | f | f
  · exact n.nF f
  · rw [n.at_] at f; cases f
  · exact no f
end
end Cw
set_option Elab.async false
set_option linter.all false
set_option maxRecDepth 100000
set_option maxHeartbeats 4000000
set_option autoImplicit false
/-! Cw, part S: comprehensions with two clauses -/
namespace Cw
open PySem L2

section
variable {K : PySem.W.Frag} {σ σ2 σ3 : L2.St} {F F' F1 F2 F3 : FS} {H H' H1 H2 H3 : Hp} {ρ ρ' ρb ρl ρ2 ρ3 : Rho} {vs vs1 ids : List Nat} {D : Addr} {acc : List V} {da : List PV}
/-- no name of the block owns a thing -/
def Clean (vs : List Nat) (ρ : Rho) : Prop := ∀ (j : Nat) s d, j ∈ vs → ρ[j]? = some (some (s, d)) → s.mut = false
theorem Clean.wiped : Clean vs (wipeR ρ vs) := fun j s d h e => absurd h (wipeR_in e)
theorem Clean.bnd (c : Clean vs ρ) (b : Bnd ids ρ σ ρ' σ2) : Clean vs ρ' := fun j s d h e => by
  by_cases q : j ∈ ids
  · rw [b.sh j s d q e]; rfl
  · rw [(b.out j q).1] at e; exact c j s d h e
theorem Clean.est (c : Clean vs ρ) (s : EStep F H ρ σ F' H' ρ') : Clean vs ρ' := fun j t d h e => by
  cases m : t.mut with
  | false => rfl
  | true =>
    obtain ⟨d0, q⟩ := s.2 j t d e m
    rw [c j t d0 h q] at m; cases m
theorem Clean.wipe (c : Clean vs ρ) : Clean vs (wipeR ρ vs1) := fun j s d h e => by
  have n := wipeR_in e
  rw [wipeR_out n] at e
  exact c j s d h e
theorem Clean.own (c : Clean vs ρ) {a : Addr} (q : OwnA ρ σ a) : OwnA (wipeR ρ vs) (L2.wipe σ vs) a := by
  obtain ⟨j, s, d, h, m, hv⟩ := q
  have n : j ∉ vs := fun z => by rw [c j s d z h] at m; cases m
  exact ⟨j, s, d, by rw [wipeR_out n]; exact h, m, by rw [wipe_at n]; exact hv⟩
theorem Clean.step (c : Clean vs ρ) (s : EStep F H ρ σ F' H' ρ') : EStep F H (wipeR ρ vs) (L2.wipe σ vs) F' H' (wipeR ρ' vs) := by
  refine ⟨⟨fun a u h n => s.1.fr a u h fun q => n (c.own q), s.1.al, s.1.ff, fun a f => (s.1.fn a f).imp_right fun z => z.imp_right c.own, fun a q => (s.1.ow a (wipe_own q).1).imp_left c.own, fun j t e h p => ?_⟩, fun j t e h m => ?_⟩
  · have n := wipeR_in h
    rw [wipeR_out n] at h
    obtain ⟨q1, s0, d0, q2, q3, q4⟩ := s.1.pn j t e h p
    exact ⟨rfl, s0, d0, by rw [wipeR_out n]; exact q2, q3, q4⟩
  · have n := wipeR_in h
    rw [wipeR_out n] at h
    obtain ⟨d0, q⟩ := s.2 j t e h m
    exact ⟨d0, by rw [wipeR_out n]; exact q⟩
theorem Bnd.wipeR (b : Bnd ids ρ σ ρ' σ2) (hl : ρ'.length = ρ.length) (hi : ∀ i ∈ ids, i ∈ vs) : wipeR ρ' vs = wipeR ρ vs := by
  refine List.ext_getElem? fun j => ?_
  by_cases c : j ∈ vs
  · rw [wipeR_in0 c, wipeR_in0 c, hl]
  · rw [wipeR_out c, wipeR_out c]; exact (b.out j fun z => c (hi j z)).1
/-- a step within the block -/
theorem LcI.mv (hD : H1 D = none) (rl : Rel K F1 H1 ρl σ) (n : LcI K F1 H1 ρl vs σ D H2 F2 ρ2 acc da) (e1 : wipeR ρb vs = wipeR ρ2 vs) (e2 : L2.wipe σ2 vs = L2.wipe σ vs) (c : Clean vs ρb) (r : Rel K F3 H3 ρ3 σ2) (s : EStep F2 H2 ρb σ2 F3 H3 ρ3) :
    LcI K F1 H1 ρl vs σ D H3 F3 ρ3 acc da := by
  have q2 := c.step s
  rw [e1, e2] at q2
  have q1 := r.wipe vs
  rw [e2] at q1
  have no : ¬ OwnA (wipeR ρ2 vs) (L2.wipe σ vs) D := EStep.fresh (rl.wipe vs) n.est hD
  have kp := q2.1.keep n.rel
  refine ⟨q1, n.est.trans q2, q2.1.fr D _ n.at_ no, Reps.keep q2.1.ff kp _ _ n.reps, fun f => ?_⟩
  rcases q2.1.fn D f with f | f | f
  · exact n.nF f
  · rw [n.at_] at f; cases f
  · exact no f
theorem LcI.congr (n : LcI K F1 H1 ρl vs σ D H2 F2 ρ2 acc da) (e : wipeR ρ3 vs = wipeR ρ2 vs) : LcI K F1 H1 ρl vs σ D H2 F2 ρ3 acc da :=
  ⟨by rw [e]; exact n.rel, by rw [e]; exact n.est, n.at_, n.reps, n.nF⟩
/-- the state of the inner loop -/
structure LcJ (K : PySem.W.Frag) (F1 : FS) (H1 : Hp) (ρl : Rho) (vs : List Nat) (σ : L2.St) (D : Addr) (F4 : FS) (H4 : Hp) (ρ4 : Rho) (vs1 : List Nat) (σ2 : L2.St) (H : Hp) (F : FS) (ρ : Rho) (acc : List V) (da : List PV) : Prop where
  n : LcI K F1 H1 ρl vs σ D H F ρ acc da
  rel : Rel K F H (wipeR ρ vs1) (wipe σ2 vs1)
  cl : Clean vs (wipeR ρ vs1)
  aft : Aft F4 H4 (fun a => OwnA ρ4 σ2 a ∨ a = D) F H
  own : ∀ a, OwnA (wipeR ρ vs1) (wipe σ2 vs1) a → OwnA ρ4 σ2 a
end

section
variable {K : PySem.W.Frag} {σ σ2 σ3 : L2.St} {F F' F1 F2 F3 F4 : FS} {H H' H1 H2 H3 H4 : Hp} {ρ ρ' ρb ρl ρ2 ρ3 ρ4 : Rho} {vs vs1 ids : List Nat} {D : Addr} {acc : List V} {da : List PV}
/-- an inner turn: names bound, a step -/
theorem LcJ.turn (hD : H1 D = none) (rl : Rel K F1 H1 ρl σ) (hw : wipe σ2 vs = wipe σ vs) (h1 : ∀ i ∈ vs1, i ∈ vs) (hi : ∀ i ∈ ids, i ∈ vs1) (n : LcJ K F1 H1 ρl vs σ D F4 H4 ρ4 vs1 σ2 H2 F2 ρ2 acc da)
    (b : Bnd ids (wipeR ρ2 vs1) (wipe σ2 vs1) ρb σ3) (rb : Rel K F2 H2 ρb σ3) (r : Rel K F3 H3 ρ3 σ3) (s : EStep F2 H2 ρb σ3 F3 H3 ρ3) : LcJ K F1 H1 ρl vs σ D F4 H4 ρ4 vs1 σ2 H3 F3 ρ3 acc da := by
  have hlb : ρb.length = (wipeR ρ2 vs1).length := by rw [rb.len, b.len, n.rel.len]
  have e1 : wipeR ρb vs = wipeR ρ2 vs := (b.wipeR hlb fun i z => h1 i (hi i z)).trans (wipeR_sub h1)
  have e0 : wipe (wipe σ2 vs1) vs = wipe σ2 vs := wipe_ext (wipe_length σ2 vs1) fun j c => wipe_at fun z => c (h1 j z)
  have e2 : wipe σ3 vs = wipe σ vs := (b.wipe fun i z => h1 i (hi i z)).trans (e0.trans hw)
  obtain ⟨q1, q2⟩ := turn_back b hi (wipe_idem σ2 vs1) r s
  refine ⟨n.n.mv hD rl e1 e2 (n.cl.bnd b) r s, q1, n.cl.est q2, ⟨fun a f => s.1.ff a (n.aft.1 a f), fun a o ha hn => ?_⟩, fun a q => n.own a (q2.owns q)⟩
  exact q2.1.fr a o (n.aft.2 a o ha hn) fun q => hn (.inl (n.own a q))
theorem LcJ.item (hD : H1 D = none) (rl : Rel K F1 H1 ρl σ) (hw : wipe σ2 vs = wipe σ vs) (h1 : ∀ i ∈ vs1, i ∈ vs) (n : LcJ K F1 H1 ρl vs σ D F4 H4 ρ4 vs1 σ2 H2 F2 ρ2 acc da)
    (r : Rel K F3 H3 (wipeR ρ2 vs1) (wipe σ2 vs1)) (s : EStep F2 H2 (wipeR ρ2 vs1) (wipe σ2 vs1) F3 H3 (wipeR ρ2 vs1)) : LcJ K F1 H1 ρl vs σ D F4 H4 ρ4 vs1 σ2 H3 F3 ρ2 acc da := by
  have e0 : wipe (wipe σ2 vs1) vs = wipe σ2 vs := wipe_ext (wipe_length σ2 vs1) fun j c => wipe_at fun z => c (h1 j z)
  have n3 := n.n.mv hD rl (ρb := wipeR ρ2 vs1) (ρ3 := wipeR ρ2 vs1) (wipeR_sub h1) (e0.trans hw) n.cl r s
  exact ⟨n3.congr (wipeR_sub h1).symm, r, n.cl, ⟨fun a f => s.1.ff a (n.aft.1 a f), fun a o ha hn => s.1.fr a o (n.aft.2 a o ha hn) fun q => hn (.inl (n.own a q))⟩, n.own⟩
theorem LcJ.app (hD : H1 D = none) (rl : Rel K F1 H1 ρl σ) (n : LcJ K F1 H1 ρl vs σ D F4 H4 ρ4 vs1 σ2 H2 F2 ρ2 acc da) (h4 : H4 D ≠ none) (r4 : Rel K F4 H4 ρ4 σ2) (no4 : ¬ OwnA ρ4 σ2 D) {d : PV} {v : V} (h : Rep K F2 H2 d v) :
    LcJ K F1 H1 ρl vs σ D F4 H4 ρ4 vs1 σ2 (upd H2 D (.lst (acc ++ [v]))) F2 ρ2 (acc ++ [v]) (da ++ [d]) := by
  refine ⟨n.n.app hD rl h, n.rel.poke _ n.n.nF fun q => no4 (n.own D q), n.cl, ⟨n.aft.1, fun a o ha hn => ?_⟩, n.own⟩
  have ne : a ≠ D := fun z => hn (.inr z)
  rw [upd_ne ne]
  exact n.aft.2 a o ha hn
end

section
variable {X : Cx} {EA : Nat → Addr} {W : WX} {C : CallSem} {σ : L2.St} {pos : Pos} {elt tgE iter tgE2 iter2 : Expr} {ifs2 : List Expr} {conds2 : List IE} {ielt : IE} {tg tg2 : Tg} {ik ik2 : Ik} {its its2 : List IE} {scope : Scope} {own : List (Str × Nat)} {vs1 : List Nat}
def rawLc2 (C : CallSem) (vs vs1 : List Nat) (tg : Tg) (ik : Ik) (its : List IE) (tg2 : Tg) (ik2 : Ik) (its2 conds2 : List IE) (elt : IE) : Rho → R (Bool × PV) := fun ρ => (itR ik its (evL C its ρ) ρ).bind fun xs ρ1 => ((compLoop2 (turnF2 C vs tg ik2 its2 vs1 tg2 conds2 elt) xs (lendR ik its ρ1)).quiet).bind fun ds ρ6 =>
        lenOk ds ρ6 (R.back ik its ρ1 (.ok (true, .lst ds) (unwipe (lendR ik its ρ1) ρ6 vs)))
theorem lcp2_red {vs : List Nat} (hids : ∀ i ∈ tg.ids, i ∈ vs) (hids2 : ∀ i ∈ tg2.ids, i ∈ vs1) (hvs1 : ∀ i ∈ vs1, i ∈ vs) (hik : ik2 ≠ .lend) {Q : VK} {H : Hp} (h : tRaw X.K EA W (rawLc2 C vs vs1 tg ik its tg2 ik2 its2 conds2 ielt) σ H Q) :
    tLc2 (iR X.K EA W C ik its) (gT X.K tg) (tCs X.K EA WF C []) (iR X.K EA WF C ik2 its2) (gT X.K tg2) (tCs X.K EA WF C conds2) (tRaw X.K EA WF (ev C false ielt)) vs vs1 σ H Q := by
  obtain ⟨F, ρ, r, h⟩ := h
  unfold rawLc2 at h
  refine ⟨F, ρ, r, h.bind.mono fun ds F1 H1 ρ1 g1 s1 h1 J wJ D hD => ?_⟩
  replace h1 := h1 F1 g1 s1
  rcases quiet_cases (compLoop2 (turnF2 C vs tg ik2 its2 vs1 tg2 conds2 ielt) ds (lendR ik its ρ1)) with ⟨out, ρ6, e⟩ | e
  rotate_left
  · rw [e] at h1; exact h1.elim
  rw [e, R.bind_ok] at h1
  replace e := quiet_ok e
  obtain ⟨ho16, h1⟩ : out.length ≤ sizeLine ∧ _ := by
    unfold lenOk at h1
    split at h1
    · rename_i hl; exact ⟨len16 hl, h1⟩
    · exact h1.elim
  unfold R.back at h1
  dsimp only at h1
  cases eb : backR ik its ρ1 (unwipe (lendR ik its ρ1) ρ6 vs) with
  | none => rw [eb] at h1; exact h1.elim
  | some ρ7 =>
  rw [eb] at h1
  dsimp only at h1
  have rl : Rel X.K F1 H1 (lendR ik its ρ1) σ := g1.lend ik its
  replace wJ := wJ (OwnA (lendR ik its ρ1) σ) (fun a f o => (rl.notF o).1 f) (fun a z => lent_own g1 z)
  refine ⟨fun i m H => ∃ F ρ acc da rest, m = ds.length - i ∧ i ≤ ds.length ∧ LcI X.K F1 H1 (lendR ik its ρ1) vs σ D H F ρ acc da ∧ compLoop2 (turnF2 C vs tg ik2 its2 vs1 tg2 conds2 ielt) (ds.drop i) ρ = .ok rest ρ6 ∧ da ++ rest = out, ⟨ds.length, F1, lendR ik its ρ1, [], [], out, rfl, Nat.zero_le _, ⟨(rl.wipe vs).lay hD _, EStep.lay (rl.wipe vs) hD _, upd_same, rfl, fun f => rl.ft D f hD⟩, e, rfl⟩, ?_⟩
  rintro i m H2 ⟨F2, ρ2, acc, da, rest, rfl, hle, n, el, eo⟩
  have aft := n.wJ
  by_cases hlt : i < ds.length
  · refine .inr ⟨wJ.go F2 H2 i aft hlt, fun H' => ∃ F ρ acc da rest, i + 1 ≤ ds.length ∧ LcI X.K F1 H1 (lendR ik its ρ1) vs σ D H' F ρ acc da ∧ compLoop2 (turnF2 C vs tg ik2 its2 vs1 tg2 conds2 ielt) (ds.drop (i + 1)) ρ = .ok rest ρ6 ∧ da ++ rest = out,
      fun H' ⟨F, ρ, acc, da, rest, q1, q2, q3, q4⟩ => ⟨ds.length - (i + 1), by omega, F, ρ, acc, da, rest, rfl, q1, q2, q3, q4⟩, fun x H3 y => ?_⟩
    obtain ⟨F3, r3, s3, rep⟩ := wJ.yld F2 H2 (wipeR ρ2 vs) (wipe σ vs) i x H3 _ aft n.rel y (List.getElem?_eq_getElem hlt)
    rw [drop_cons hlt] at el
    unfold compLoop2 at el
    obtain ⟨outs, ρa, e1, el⟩ := bind_inv el
    obtain ⟨rest', ρz, e2, el⟩ := bind_inv el
    cases el
    unfold turnF2 at e1
    obtain ⟨⟨⟩, ρb, e3, e1⟩ := bind_inv e1
    obtain ⟨ys, ρ4, e4, e1⟩ := bind_inv e1
    have n3 := n.item hD rl r3 s3
    refine ⟨F3, wipeR ρ2 vs, _, r3, rep, ρb, e3, fun σ2 rb b => ⟨(b.wipe hids).trans (wipe_idem σ vs), F3, ρb, rb, ?_⟩⟩
    simp only [evC]
    intro F3' H3' r3' s3'
    rw [if_pos rfl]
    have hlb : ρb.length = (wipeR ρ2 vs).length := by rw [rb.len, b.len, r3.len]
    have eb1 : wipeR ρb vs = wipeR ρ2 vs := (b.wipeR hlb hids).trans (wipeR_sub fun _ z => z)
    have eb2 : wipe σ2 vs = wipe σ vs := (b.wipe hids).trans (wipe_idem σ vs)
    have cb : Clean vs ρb := Clean.bnd Clean.wiped b
    have n3' := n3.mv hD rl eb1 eb2 cb r3' s3'
    refine ⟨F3', ρb, r3', ?_⟩
    rw [e4]
    intro F4 H4 r4 s4 J1 wJ1
    have n4 := n3'.mv hD rl rfl eb2 cb r4 s4
    have c4 : Clean vs ρ4 := cb.est s4
    have no4 : ¬ OwnA ρ4 σ2 D := fun q => by
      have q2 := c4.own q
      rw [eb2] at q2
      exact EStep.fresh (rl.wipe vs) n4.est hD q2
    replace wJ1 := wJ1 (fun a => OwnA ρ4 σ2 a ∨ a = D) (fun a f o => o.elim (fun o => (r4.notF o).1 f) fun z => by subst z; exact n4.nF f) (fun a ⟨j, s, d, ej, _⟩ => by
      unfold lendI at ej
      split at ej
      · exact absurd rfl hik
      · cases ej)
    have j4 : LcJ X.K F1 H1 (lendR ik its ρ1) vs σ D F4 H4 ρ4 vs1 σ2 H4 F4 ρ4 acc da := ⟨n4, r4.wipe vs1, c4.wipe, ⟨fun _ z => z, fun _ _ z _ => z⟩, fun a q => (wipe_own q).1⟩
    refine ⟨fun j k H => ∃ F ρ acc da rest, k = ys.length - j ∧ j ≤ ys.length ∧ LcJ X.K F1 H1 (lendR ik its ρ1) vs σ D F4 H4 ρ4 vs1 σ2 H F ρ acc da ∧ compLoop (turnF C vs1 tg2 conds2 ielt) (ys.drop j) ρ = .ok rest ρa ∧ da ++ (rest ++ rest') = out, ⟨ys.length, F4, ρ4, acc, da, outs, rfl, Nat.zero_le _, j4, e1, eo⟩, ?_⟩
    rintro j k H5 ⟨F5, ρ5, acc5, da5, rest5, rfl, hle5, n5, el5, eo5⟩
    by_cases hlt5 : j < ys.length
    · refine .inr ⟨wJ1.go F5 H5 j n5.aft hlt5, fun H' => ∃ F ρ acc da rest, j + 1 ≤ ys.length ∧ LcJ X.K F1 H1 (lendR ik its ρ1) vs σ D F4 H4 ρ4 vs1 σ2 H' F ρ acc da ∧ compLoop (turnF C vs1 tg2 conds2 ielt) (ys.drop (j + 1)) ρ = .ok rest ρa ∧ da ++ (rest ++ rest') = out,
        fun H' ⟨F, ρ, acc, da, rest, q1, q2, q3, q4⟩ => ⟨ys.length - (j + 1), by omega, F, ρ, acc, da, rest, rfl, q1, q2, q3, q4⟩, fun x5 H6 y5 => ?_⟩
      obtain ⟨F6, r6, s6, rep6⟩ := wJ1.yld F5 H5 (wipeR ρ5 vs1) (wipe σ2 vs1) j x5 H6 _ n5.aft n5.rel y5 (List.getElem?_eq_getElem hlt5)
      rw [drop_cons hlt5] at el5
      unfold compLoop at el5
      obtain ⟨o, ρe, f1, el5⟩ := bind_inv el5
      obtain ⟨rest6, ρg, f2, el5⟩ := bind_inv el5
      cases el5
      unfold turnF at f1
      obtain ⟨⟨⟩, ρh, f3, f1⟩ := bind_inv f1
      obtain ⟨kk, ρi, f4, f1⟩ := bind_inv f1
      have n6 := n5.item hD rl eb2 hvs1 r6 s6
      refine ⟨F6, wipeR ρ5 vs1, _, r6, rep6, ρh, f3, fun σ3 rh bh => ⟨(bh.wipe hids2).trans (wipe_idem σ2 vs1), F6, ρh, rh, ?_⟩⟩
      rw [f4]
      intro F7 H7 r7 s7
      cases kk with
      | false =>
        simp only [Bool.false_eq_true, if_false] at f1 ⊢
        cases f1
        exact ⟨F7, _, acc5, da5, rest6, hlt5, n6.turn hD rl eb2 hvs1 hids2 bh rh r7 s7, f2, eo5⟩
      | true =>
        simp only [if_true] at f1 ⊢
        obtain ⟨w, ρj, f5, f1⟩ := bind_inv f1
        cases f1
        refine ⟨F7, ρi, r7, ?_⟩
        rw [f5]
        intro F8 H8 r8 s8 v rv
        obtain ⟨G, rG, sG, repG, hFG⟩ := share r7 s8 r8 rv
        have nG := n6.turn hD rl eb2 hvs1 hids2 bh rh rG (s7.trans sG)
        have hlen : acc5.length < sizeLine := by
          have h1 := nG.n.reps.len
          have h2 : da5.length + (rest6.length + 1 + rest'.length) = out.length := by
            rw [← eo5]; simp only [List.length_append, List.length_cons]
          omega
        exact ⟨acc5, nG.n.at_, hlen, G, _, acc5 ++ [v], da5 ++ [w.2], rest6, hlt5, nG.app hD rl (by rw [n4.at_]; simp) r4 no4 repG, f2, by rw [List.append_assoc]; exact eo5⟩
    · have ej : j = ys.length := by omega
      subst ej
      refine .inl ⟨wJ1.stop F5 H5 _ n5.aft rfl, ?_⟩
      rw [List.drop_length] at el5
      unfold compLoop at el5
      cases el5
      exact ⟨F5, _, acc5, da5, rest', hlt, n5.n, e2, eo5⟩
  · have ei : i = ds.length := by omega
    subst ei
    refine .inl ⟨wJ.stop F2 H2 _ aft rfl, ?_⟩
    rw [List.drop_length] at el
    unfold compLoop2 at el
    cases el
    rw [List.append_nil] at eo
    subst eo
    obtain ⟨q1, q2⟩ := block_back rl n.rel n.est
    have hl6 : ρ6.length = (lendR ik its ρ1).length := by
      have := n.rel.len
      rw [wipeR_len, wipe_length] at this
      rw [this, rl.len]
    rw [unwipe_wipe hl6] at q1 q2
    obtain ⟨q3, q4, q5⟩ := lend_back g1 q1 q2.1 eb
    exact h1 F2 H2 q3 ⟨q4, q5 q2.2⟩ _ ⟨D, rfl, ⟨n.nF, acc, n.at_, n.reps⟩, s1.1.al D hD⟩
theorem snd_lcp2 (hcalm : X.calm = true) (hN : X.N.Nodup) (hi : PI X tgE iter (iR X.K EA W C ik its)) (ok : BlkOk X.N X.env.scope scope own) (hids : ∀ i ∈ tg.ids, i ∈ own.map (·.2)) (hids2 : ∀ i ∈ tg2.ids, i ∈ vs1) (hvs1 : ∀ i ∈ vs1, i ∈ own.map (·.2)) (hik : ik2 ≠ .lend)
    (hg : ∀ (s : Shared) (H : Hp) (Cc : Addr) (cl : List (Str × Addr)) (fp : List Addr), PG (X.blk s H scope (compEnvC scope cl Cc X.env) fp) tgE (gT X.K tg))
    (hi2 : ∀ (s : Shared) (H : Hp) (Cc : Addr) (cl : List (Str × Addr)) (fp : List Addr), PI (X.blk s H scope (compEnvC scope cl Cc X.env) fp) tgE2 iter2 (iR X.K EA WF C ik2 its2))
    (hg2 : ∀ (s : Shared) (H : Hp) (Cc : Addr) (cl : List (Str × Addr)) (fp : List Addr), PG (X.blk s H scope (compEnvC scope cl Cc X.env) fp) tgE2 (gT X.K tg2))
    (ht2 : ∀ (s : Shared) (H : Hp) (Cc : Addr) (cl : List (Str × Addr)) (fp : List Addr), PTs (X.blk s H scope (compEnvC scope cl Cc X.env) fp) ifs2 (tCs X.K EA WF C conds2))
    (he : ∀ (s : Shared) (H : Hp) (Cc : Addr) (cl : List (Str × Addr)) (fp : List Addr), Snd (X.blk s H scope (compEnvC scope cl Cc X.env) fp) EA WF C elt ielt)
    (hs : ∀ x, foldedSetIterable iter X.env x = pure x) (hs2 : ∀ env x, foldedSetIterable iter2 env x = pure x) : Snd X EA W C (.ListComp elt [⟨tgE, iter, [], 0⟩, ⟨tgE2, iter2, ifs2, 0⟩] scope pos) (.lcp2 (own.map (·.2)) vs1 tg ik its tg2 ik2 its2 conds2 ielt) := by
  have base := pe_lc2 (pos := pos) (elt := elt) (te := tRaw X.K EA WF (ev C false ielt)) (tt := tCs X.K EA WF C []) hcalm hN hi ok hvs1 hg (fun s H Cc cl fp => cs_nil) hi2 hg2 ht2 (fun s H Cc cl fp => (he s H Cc cl fp).v) hs hs2
  generalize hvs : own.map (·.2) = vs at hids hvs1 base ⊢
  exact Snd.of (raw := rawLc2 C vs vs1 tg ik its tg2 ik2 its2 conds2 ielt) (fun m ρ => rfl) (fun _ z => nomatch z) (fun _ _ => rfl) (PE.imp' base fun σ H Q h => lcp2_red hids hids2 hvs1 hik h)
end
end Cw
set_option Elab.async false
set_option linter.all false
set_option maxRecDepth 100000
set_option maxHeartbeats 4000000
set_option autoImplicit false
/-! Cw, part T: statements -/
namespace Cw
open PySem L2

section
variable {K : PySem.W.Frag} {EA : Nat → Addr} {W : WX} {σ σ' σ0 : L2.St} {F F' F0 : FS} {H H' H0 : Hp} {ρ ρ' ρ0 : Rho}
/-- a value handed back -/
def RetS (K : PySem.W.Frag) (F0 : FS) (H0 : Hp) (ρ0 : Rho) (σ0 : L2.St) (F : FS) (H : Hp) (ρ : Rho) (σ : L2.St) (fr : Bool) (d : PV) (v : V) : Prop :=
  if fr = true then ∃ a, v = .ref a ∧ OwnAt K F H d a ∧ (H0 a = none ∨ OwnA ρ0 σ0 a) ∧ ¬ OwnA ρ σ a else Rep K F H d v
/-- what a statement is to lead to -/
def postS (K : PySem.W.Frag) (EA : Nat → Addr) (W : WX) (σ : L2.St) (F : FS) (H : Hp) (ρ : Rho) (r : R Fl) (D : Ends) : Prop :=
  match r with
  | .ok .nx ρ' => ∀ F' H' σ', Rel K F' H' ρ' σ' → Step F H ρ σ F' H' ρ' σ' → D.nx σ' H'
  | .ok .brk ρ' => ∀ F' H' σ', Rel K F' H' ρ' σ' → Step F H ρ σ F' H' ρ' σ' → D.bk σ' H'
  | .ok .cnt ρ' => ∀ F' H' σ', Rel K F' H' ρ' σ' → Step F H ρ σ F' H' ρ' σ' → D.ct σ' H'
  | .ok (.ret fr d) ρ' => ∀ F' H' σ' v, Rel K F' H' ρ' σ' → Step F H ρ σ F' H' ρ' σ' → RetS K F H ρ σ F' H' ρ' σ' fr d v → D.rt v H'
  | .exc c x ρ' => ∀ F' H' σ' cls dd, Rel K F' H' ρ' σ' → Step F H ρ σ F' H' ρ' σ' → ExcIs EA c x cls dd → W cls dd σ' H'
  | .bad => False
theorem RetS.back (s : Step F0 H0 ρ0 σ0 F H ρ σ) {fr : Bool} {d : PV} {v : V} (h : RetS K F H ρ σ F' H' ρ' σ' fr d v) : RetS K F0 H0 ρ0 σ0 F' H' ρ' σ' fr d v := by
  cases fr with
  | false => exact h
  | true =>
    obtain ⟨a, e, o, h1, h2⟩ := h
    exact ⟨a, e, o, h1.elim (fun z => .inl (s.al a z)) fun z => (s.ow a z).symm, h2⟩
theorem postS.from {r : R Fl} {D : Ends} (h : postS K EA W σ0 F0 H0 ρ0 r D) (s : Step F0 H0 ρ0 σ0 F H ρ σ) : postS K EA W σ F H ρ r D := by
  cases r with
  | ok f ρ' =>
    cases f with
    | nx => exact fun F' H' σ' r' s' => h F' H' σ' r' (s.trans s')
    | brk => exact fun F' H' σ' r' s' => h F' H' σ' r' (s.trans s')
    | cnt => exact fun F' H' σ' r' s' => h F' H' σ' r' (s.trans s')
    | ret fr d => exact fun F' H' σ' v r' s' rv => h F' H' σ' v r' (s.trans s') (rv.back s)
  | exc c x ρ' => exact fun F' H' σ' cls dd r' s' => h F' H' σ' cls dd r' (s.trans s')
  | bad => exact h
/-- an expression first -/
theorem postS.ebind {α : Type} {r : R α} {f : α → Rho → R Fl} {D : Ends} (h : postS K EA W σ F H ρ (r.bind f) D) :
    post K EA W σ F H ρ r fun a F1 H1 ρ1 => ∀ G, Rel K G H1 ρ1 σ → EStep F H ρ σ G H1 ρ1 → postS K EA W σ G H1 ρ1 (f a ρ1) D := by
  cases r with
  | ok a ρ1 => exact fun F1 H1 r1 s1 G rG sG => postS.from h sG.1
  | exc c x ρ1 => exact fun F1 H1 cls dd r1 s1 ex => h F1 H1 σ cls dd r1 s1.1 ex
  | bad => exact h
/-- the same, the start kept -/
theorem postS.ebind0 {α : Type} {r : R α} {f : α → Rho → R Fl} {D : Ends} (h : postS K EA W σ F H ρ (r.bind f) D) :
    post K EA W σ F H ρ r fun a F1 H1 ρ1 => postS K EA W σ F H ρ (f a ρ1) D := by
  cases r with
  | ok a ρ1 => exact fun F1 H1 r1 s1 => h
  | exc c x ρ1 => exact fun F1 H1 cls dd r1 s1 ex => h F1 H1 σ cls dd r1 s1.1 ex
  | bad => exact h
def tS (K : PySem.W.Frag) (EA : Nat → Addr) (W : WX) (run : Rho → R Fl) : TS := fun D σ H => ∃ F ρ, Rel K F H ρ σ ∧ postS K EA W σ F H ρ (run ρ) D

/-! ### stores -/
theorem Rel.setOwn (r : Rel K F H ρ σ) {i : Nat} {x : Slot} (hi : ρ[i]? = some x) {d : PV} {a : Addr} (h : OwnAt K F H d a) (no : ¬ OwnA ρ σ a) : Rel K F H (ρ.set i (some (.own, d))) (σ.set i (some (.ref a))) := by
  have hl : i < σ.length := by
    rw [← r.len]
    rcases Nat.lt_or_ge i ρ.length with z | z
    · exact z
    · rw [List.getElem?_eq_none z] at hi; cases hi
  have hs := set_at (x := some (.own, d)) hi
  have hv : (σ.set i (some (V.ref a)))[i]? = some (some (.ref a)) := List.getElem?_set_self hl
  refine ⟨by rw [List.length_set, List.length_set]; exact r.len, r.ft, fun j t e hj hm => ?_, fun j t e hj hm => ?_, fun j k t e t' e' b hj hm hk hm' hv1 hv2 => ?_⟩
  · by_cases c : i = j
    · subst c; rw [hs] at hj; cases hj; cases hm
    · rw [set_ne c] at hj
      rw [List.getElem?_set_ne c]; exact r.rd j t e hj hm
  · by_cases c : i = j
    · subst c; rw [hs] at hj; cases hj; exact ⟨a, hv, h⟩
    · rw [set_ne c] at hj
      rw [List.getElem?_set_ne c]; exact r.ow j t e hj hm
  · by_cases c : i = j
    · by_cases c' : i = k
      · exact c.symm.trans c'
      · subst c
        rw [hv] at hv1; cases hv1
        rw [set_ne c'] at hk
        rw [List.getElem?_set_ne c'] at hv2
        exact absurd ⟨k, t', e', hk, hm', hv2⟩ no
    · rw [set_ne c] at hj
      rw [List.getElem?_set_ne c] at hv1
      by_cases c' : i = k
      · subst c'
        rw [hv] at hv2; cases hv2
        exact absurd ⟨j, t, e, hj, hm, hv1⟩ no
      · rw [set_ne c'] at hk
        rw [List.getElem?_set_ne c'] at hv2
        exact r.ap j k _ _ _ _ b hj hm hk hm' hv1 hv2
theorem set_any (s : Step F0 H0 ρ0 σ0 F H ρ σ) (r : Rel K F H ρ σ) {i : Nat} {fr : Bool} {d : PV} {v : V} (e : setV i fr d ρ = .ok () ρ') (h : RepS K F H H0 fr d v) (no : ∀ a, v = .ref a → fr = true → ¬ OwnA ρ σ a) :
    Rel K F H ρ' (σ.set i (some v)) ∧ Step F0 H0 ρ0 σ0 F H ρ' (σ.set i (some v)) := by
  obtain ⟨⟨x, hx⟩, rfl, hp⟩ := setV_ok e
  cases fr with
  | false =>
    obtain ⟨r2, b⟩ := r.setSh hx h
    exact ⟨r2, s.trans b.step⟩
  | true =>
    obtain ⟨a, rfl, o, n⟩ := h
    have r2 := r.setOwn hx o (no a rfl rfl)
    refine ⟨r2, ⟨s.fr, s.al, s.ff, s.fn, fun b q => ?_, fun j t e hj hm => ?_⟩⟩
    · obtain ⟨j, t, e, hj, hm, hv⟩ := q
      by_cases c : i = j
      · subst c
        have hl : i < σ.length := by
          rw [← r.len]
          rcases Nat.lt_or_ge i ρ.length with z | z
          · exact z
          · rw [List.getElem?_eq_none z] at hx; cases hx
        rw [List.getElem?_set_self hl] at hv
        cases hv
        exact .inr n
      · rw [if_pos rfl, set_ne c] at hj
        rw [List.getElem?_set_ne c] at hv
        exact s.ow b ⟨j, t, e, hj, hm, hv⟩
    · by_cases c : i = j
      · subst c; rw [if_pos rfl, set_at hx] at hj; cases hj; cases hm
      · rw [if_pos rfl, set_ne c] at hj
        rw [List.getElem?_set_ne c]
        exact s.pn j t e hj hm
end

section
variable {X : Cx} {EA : Nat → Addr} {W : WX} {C : CallSem} {σ : L2.St} {F F' : FS} {H H' : Hp} {ρ ρ' : Rho} {a b c : Expr} {ia ib ic : IE} {pos pos' p : Pos} {x : Str} {st : Stmt} {sts sts2 : List Stmt} {is : IS} {iss iss2 : List IS}
theorem PS.imp' {t t' : TS} (h : PS X st t) (i : ∀ D σ H, t' D σ H → t D σ H) : PS X st t' := ⟨fun pins s σ H D I q => h.run pins s σ H D I (i D σ H q)⟩
theorem PSs.imp' {t t' : TS} (h : PSs X sts t) (i : ∀ D σ H, t' D σ H → t D σ H) : PSs X sts t' := ⟨fun pins s σ H D I q => h.run pins s σ H D I (i D σ H q)⟩
abbrev SndS (X : Cx) (EA : Nat → Addr) (W : WX) (C : CallSem) (st : Stmt) (is : IS) : Prop := PS X st (tS X.K EA W (exS C is))
abbrev SndSs (X : Cx) (EA : Nat → Addr) (W : WX) (C : CallSem) (sts : List Stmt) (iss : List IS) : Prop := PSs X sts (tS X.K EA W (exSs C iss))
theorem ss_nil : SndSs X EA W C [] [] := PSs.imp' pss_nil fun D σ H h => by
  obtain ⟨F, ρ, r, h⟩ := h
  exact h F H σ r .refl
theorem ss_cons (h1 : SndS X EA W C st is) (h2 : SndSs X EA W C sts iss) : SndSs X EA W C (st :: sts) (is :: iss) := PSs.imp' (pss_cons h1 h2) fun D σ H h => by
  obtain ⟨F, ρ, r, h⟩ := h
  refine ⟨F, ρ, r, ?_⟩
  simp only [exSs] at h
  cases e : exS C is ρ with
  | ok f ρ1 =>
    rw [e] at h
    cases f with
    | nx => exact fun F1 H1 σ1 r1 s1 => ⟨F1, ρ1, r1, postS.from h s1⟩
    | brk => exact h
    | cnt => exact h
    | ret fr d => exact h
  | exc c x ρ1 => rw [e] at h; exact h
  | bad => rw [e] at h; exact h
theorem ss_pass : SndS X EA W C (.Pass pos) .pass := PS.imp' ps_pass fun D σ H h => by
  obtain ⟨F, ρ, r, h⟩ := h
  exact h F H σ r .refl
theorem ss_brk : SndS X EA W C (.Break pos) .brk := PS.imp' ps_break fun D σ H h => by
  obtain ⟨F, ρ, r, h⟩ := h
  exact h F H σ r .refl
theorem ss_cnt : SndS X EA W C (.Continue pos) .cnt := PS.imp' ps_continue fun D σ H h => by
  obtain ⟨F, ρ, r, h⟩ := h
  exact h F H σ r .refl
theorem ss_ex (ha : Snd X EA W C a ia) (hs : swapsWith a none pos.line X.env = pure false) : SndS X EA W C (.Expr a pos) (.ex ia) := PS.imp' (ps_expr ha.v hs) fun D σ H h => by
  obtain ⟨F, ρ, r, h⟩ := h
  simp only [exS] at h
  exact ⟨F, ρ, r, h.ebind.mono fun y F1 H1 ρ1 g1 s1 h1 v rv => h1 F1 g1 s1 F1 H1 σ g1 .refl⟩
theorem ss_if (hc : Snd X EA W C c ic) (h1 : SndSs X EA W C sts iss) (h2 : SndSs X EA W C sts2 iss2) : SndS X EA W C (.If c sts sts2 pos) (.ifs ic iss iss2) := PS.imp' (ps_if hc.t h1 h2) fun D σ H h => by
  obtain ⟨F, ρ, r, h⟩ := h
  simp only [exS] at h
  refine ⟨F, ρ, r, h.ebind.mono fun y F1 H1 ρ1 g1 s1 h1 => ?_⟩
  obtain ⟨fy, y⟩ := y
  replace h1 := h1 F1 g1 s1
  split at h1
  · rename_i e; simp only at e; subst e
    exact ⟨true, rfl, F1, ρ1, g1, h1⟩
  · rename_i e; simp only at e; subst e
    exact ⟨false, rfl, F1, ρ1, g1, h1⟩
  · exact h1.elim

/-! ### return -/
theorem ss_retN : SndS X EA W C (.Return none pos) .retN := PS.imp' ps_retN fun D σ H h => by
  obtain ⟨F, ρ, r, h⟩ := h
  exact h F H σ .non r .refl rfl
theorem RepS.ret {K : PySem.W.Frag} {F0 : FS} {H0 : Hp} {ρ0 : Rho} (r0 : Rel K F0 H0 ρ0 σ) (s : EStep F0 H0 ρ0 σ F H ρ) {fr : Bool} {d : PV} {v : V} (h : RepS K F H H0 fr d v) : RetS K F0 H0 ρ0 σ F H ρ σ fr d v := by
  cases fr with
  | false => exact h
  | true =>
    obtain ⟨a, e, o, n⟩ := h
    exact ⟨a, e, o, .inl n, EStep.fresh r0 s n⟩
theorem ss_ret (ha : Snd X EA W C a ia) (hv : ∀ i, ia ≠ .var i) : SndS X EA W C (.Return (some a) pos) (.ret ia) := PS.imp' (ps_ret ha.v) fun D σ H h => by
  obtain ⟨F, ρ, r, h⟩ := h
  simp only [exS] at h
  have e1 : ∀ r ρ, retV ia r ρ = r := fun r ρ => by unfold retV; split <;> first | rfl | exact absurd rfl (hv _)
  rw [e1] at h
  exact ⟨F, ρ, r, h.ebind0.mono fun y F1 H1 ρ1 g1 s1 h1 v rv => h1 F1 H1 σ v g1 s1.1 (rv.ret r s1)⟩
/-- a slot is forgotten -/
theorem Rel.forget {K : PySem.W.Frag} (r : Rel K F H ρ σ) (i : Nat) : Rel K F H (ρ.set i none) σ ∧ EStep F H ρ σ F H (ρ.set i none) := by
  have g : ∀ {j : Nat} {t : Stt} {e : PV}, (ρ.set i none)[j]? = some (some (t, e)) → i ≠ j ∧ ρ[j]? = some (some (t, e)) := fun {j t e} hj => by
    by_cases c : i = j
    · subst c
      by_cases hi : i < ρ.length
      · rw [List.getElem?_set_self hi] at hj; cases hj
      · rw [List.getElem?_eq_none (by rw [List.length_set]; omega)] at hj; cases hj
    · rw [List.getElem?_set_ne c] at hj; exact ⟨c, hj⟩
  refine ⟨⟨by rw [List.length_set]; exact r.len, r.ft, fun j t e hj => r.rd j t e (g hj).2, fun j t e hj => r.ow j t e (g hj).2, fun j k t e t' e' a hj hm hk => r.ap j k t e t' e' a (g hj).2 hm (g hk).2⟩,
    ⟨fun _ _ h _ => h, fun _ h => h, fun _ h => h, fun _ h => .inl h, fun a q => ?_, fun j t e hj hp => ⟨rfl, t, e, (g hj).2, hp, .inl rfl⟩⟩, fun j t e hj hm => ⟨e, (g hj).2⟩⟩
  obtain ⟨j, t, e, hj, hm, hv⟩ := q
  exact .inl ⟨j, t, e, (g hj).2, hm, hv⟩
theorem ss_retV {i : Nat} (hN : X.N[i]? = some x) (hv : Vis X.env.scope x) (hd : (x == ("__debug__" : Str)) = false) (hcd : (x == ("__classdict__" : Str)) = false) : SndS X EA W C (.Return (some (.Name x p)) pos) (.ret (.var i)) := by
  have base := pe_var (X := X) (pos := p) hN hv hd hcd
  refine PS.imp' (ps_ret base) fun D σ H h => ?_
  obtain ⟨F, ρ, r, h⟩ := h
  have h : postS X.K EA W σ F H ρ ((retV (.var i) (ev C false (.var i) ρ) ρ).bind fun x ρ1 => .ok (.ret x.1 x.2) ρ1) D := by simpa only [exS] using h
  unfold retV at h
  dsimp only at h
  split at h
  · rename_i d e
    obtain ⟨a, e1, o⟩ := r.ow i _ _ e rfl
    obtain ⟨r2, s2⟩ := r.forget i
    refine ⟨_, e1, h F H σ _ r2 s2.1 ⟨a, rfl, o, .inr ⟨i, _, _, e, rfl, e1⟩, ?_⟩⟩
    rintro ⟨j, t, e', hj, hm, hv'⟩
    by_cases c : i = j
    · subst c
      rw [set_at e] at hj; cases hj
    · rw [List.getElem?_set_ne c] at hj
      exact c (r.ap i j _ _ _ _ a e rfl hj hm e1 hv')
  · simp only [ev, Bool.false_eq_true, if_false, getV] at h
    split at h
    · rename_i d e
      obtain ⟨v, e1, e2⟩ := r.rd i _ _ e rfl
      exact ⟨v, e1, h F H σ v r .refl e2⟩
    · rename_i d e
      obtain ⟨v, e1, e2⟩ := r.rd i _ _ e rfl
      exact ⟨v, e1, h F H σ v r .refl e2⟩
    · rename_i d e
      obtain ⟨l, e1, r1, s1, rp⟩ := r.freeze e rfl
      exact ⟨_, e1, h _ _ σ _ r1 s1.1 rp⟩
    · rename_i d e
      obtain ⟨l, e1, r1, s1, rp⟩ := r.freeze e rfl
      exact ⟨_, e1, h _ _ σ _ r1 s1.1 rp⟩
    · exact h.elim
end
end Cw
set_option Elab.async false
set_option linter.all false
set_option maxRecDepth 100000
set_option maxHeartbeats 4000000
set_option autoImplicit false
/-! Cw, part U: assignments -/
namespace Cw
open PySem L2

section
variable {X : Cx} {EA : Nat → Addr} {W : WX} {C : CallSem} {σ : L2.St} {F F' : FS} {H H' : Hp} {ρ ρ' : Rho} {a b c tgE : Expr} {ia ib ic : IE} {pos pos' p : Pos} {x y : Str} {tg : Tg}
/-- a value, then a store -/
theorem asg_name {i : Nat} {raw : Rho → R (Bool × PV)} {D : Ends} (h : tS X.K EA W (fun ρ => (raw ρ).bind fun x ρ1 => (setV i x.1 x.2 ρ1).bind fun _ ρ2 => .ok .nx ρ2) D σ H) : tRaw X.K EA W raw σ H fun v H1 => D.nx (σ.set i (some v)) H1 := by
  obtain ⟨F, ρ, r, h⟩ := h
  refine ⟨F, ρ, r, h.ebind0.mono fun y F1 H1 ρ1 g1 s1 h1 v rv => ?_⟩
  cases e : setV i y.1 y.2 ρ1 with
  | ok u ρ2 =>
    rw [e] at h1
    obtain ⟨r2, s2⟩ := set_any s1.1 g1 e rv (fun a ev ef => by
      subst ev
      obtain ⟨fy, y⟩ := y
      simp only at ef
      subst ef
      obtain ⟨a', e', o, n⟩ := rv
      cases e'
      exact EStep.fresh r s1 n)
    exact h1 F1 H1 _ r2 s2
  | exc _ _ _ => exact absurd e (by unfold setV; split <;> simp)
  | bad => rw [e] at h1; exact h1.elim
theorem ss_set {i : Nat} (hN : X.N.Nodup) (hi : X.N[i]? = some x) (hx : Loc X.env.scope x) (hf : X.fn x = true ∨ X.env.scope.names.lookup x = some .local) (ha : Snd X EA W C a ia) (hs : swapsWith a (some (.Name x pos')) pos.line X.env = pure false) :
    SndS X EA W C (.Assign [.Name x pos'] a pos) (.asg (.name i) ia) := PS.imp' (ps_set hN hi hx ha.v hs hf) fun D σ H h => by
  refine asg_name (raw := ev C false ia) ?_
  simpa only [tS, exS, asgT] using h
theorem ss_setLc {i : Nat} {own : List (Str × Nat)} {ik : Ik} {its conds : List IE} {elt iter : Expr} {ifs : List Expr} {ielt : IE} {scope : Scope} {py spos : Pos} {tgc : Tg} {tgcE : Expr} (hcalm : X.calm = true) (hN : X.N.Nodup) (hy : X.N[i]? = some y) (hyl : X.env.scope.names.lookup y = some .local)
    (hsw : swapsWith (.ListComp elt [⟨tgcE, iter, ifs, 0⟩] scope pos) (some (.Name y py)) spos.line X.env = pure true)
    (hi : PI X tgcE iter (iR X.K EA W C ik its)) (ok : BlkOk X.N X.env.scope scope own) (hids : ∀ i ∈ tgc.ids, i ∈ own.map (·.2))
    (hg : ∀ (s : Shared) (H : Hp) (Cc : Addr) (cl : List (Str × Addr)) (fp : List Addr), PG (X.blk s H scope (compEnvC scope cl Cc X.env) fp) tgcE (gT X.K tgc))
    (ht : ∀ (s : Shared) (H : Hp) (Cc : Addr) (cl : List (Str × Addr)) (fp : List Addr), PTs (X.blk s H scope (compEnvC scope cl Cc X.env) fp) ifs (tCs X.K EA WF C conds))
    (he : ∀ (s : Shared) (H : Hp) (Cc : Addr) (cl : List (Str × Addr)) (fp : List Addr), Snd (X.blk s H scope (compEnvC scope cl Cc X.env) fp) EA WF C elt ielt)
    (hs : ∀ x, foldedSetIterable iter X.env x = pure x) : SndS X EA W C (.Assign [.Name y py] (.ListComp elt [⟨tgcE, iter, ifs, 0⟩] scope pos) spos) (.asg (.name i) (.lcp (own.map (·.2)) tgc ik its conds ielt)) := by
  have base := ps_setLc (i := i) (te := tRaw X.K EA WF (ev C false ielt)) hcalm hN hy hyl hsw hi ok hg ht (fun s H Cc cl fp => (he s H Cc cl fp).v) hs
  refine PS.imp' base fun D σ H h => ?_
  refine lcp_red hids (asg_name (raw := rawLc C (own.map (·.2)) tgc ik its conds ielt) ?_)
  have e : ∀ ρ, ev C false (.lcp (own.map (·.2)) tgc ik its conds ielt) ρ = rawLc C (own.map (·.2)) tgc ik its conds ielt ρ := fun ρ => rfl
  simpa only [tS, exS, asgT, e] using h
theorem ss_setLc2 {i : Nat} {own : List (Str × Nat)} {vs1 : List Nat} {ik ik2 : Ik} {its its2 conds2 : List IE} {elt iter iter2 : Expr} {ifs2 : List Expr} {ielt : IE} {scope : Scope} {py spos : Pos} {tgc tgc2 : Tg} {tgcE tgcE2 : Expr} (hcalm : X.calm = true) (hN : X.N.Nodup) (hy : X.N[i]? = some y) (hyl : X.env.scope.names.lookup y = some .local)
    (hsw : swapsWith (.ListComp elt [⟨tgcE, iter, [], 0⟩, ⟨tgcE2, iter2, ifs2, 0⟩] scope pos) (some (.Name y py)) spos.line X.env = pure true)
    (hi : PI X tgcE iter (iR X.K EA W C ik its)) (ok : BlkOk X.N X.env.scope scope own) (hids : ∀ i ∈ tgc.ids, i ∈ own.map (·.2)) (hids2 : ∀ i ∈ tgc2.ids, i ∈ vs1) (hvs1 : ∀ i ∈ vs1, i ∈ own.map (·.2)) (hik : ik2 ≠ .lend)
    (hg : ∀ (s : Shared) (H : Hp) (Cc : Addr) (cl : List (Str × Addr)) (fp : List Addr), PG (X.blk s H scope (compEnvC scope cl Cc X.env) fp) tgcE (gT X.K tgc))
    (hi2 : ∀ (s : Shared) (H : Hp) (Cc : Addr) (cl : List (Str × Addr)) (fp : List Addr), PI (X.blk s H scope (compEnvC scope cl Cc X.env) fp) tgcE2 iter2 (iR X.K EA WF C ik2 its2))
    (hg2 : ∀ (s : Shared) (H : Hp) (Cc : Addr) (cl : List (Str × Addr)) (fp : List Addr), PG (X.blk s H scope (compEnvC scope cl Cc X.env) fp) tgcE2 (gT X.K tgc2))
    (ht2 : ∀ (s : Shared) (H : Hp) (Cc : Addr) (cl : List (Str × Addr)) (fp : List Addr), PTs (X.blk s H scope (compEnvC scope cl Cc X.env) fp) ifs2 (tCs X.K EA WF C conds2))
    (he : ∀ (s : Shared) (H : Hp) (Cc : Addr) (cl : List (Str × Addr)) (fp : List Addr), Snd (X.blk s H scope (compEnvC scope cl Cc X.env) fp) EA WF C elt ielt)
    (hs : ∀ x, foldedSetIterable iter X.env x = pure x) (hs2 : ∀ env x, foldedSetIterable iter2 env x = pure x) :
    SndS X EA W C (.Assign [.Name y py] (.ListComp elt [⟨tgcE, iter, [], 0⟩, ⟨tgcE2, iter2, ifs2, 0⟩] scope pos) spos) (.asg (.name i) (.lcp2 (own.map (·.2)) vs1 tgc ik its tgc2 ik2 its2 conds2 ielt)) := by
  have base := ps_setLc2 (i := i) (te := tRaw X.K EA WF (ev C false ielt)) (tt := tCs X.K EA WF C []) hcalm hN hy hyl hsw hi ok hvs1 hg (fun s H Cc cl fp => cs_nil) hi2 hg2 ht2 (fun s H Cc cl fp => (he s H Cc cl fp).v) hs hs2
  refine PS.imp' base fun D σ H h => ?_
  refine lcp2_red hids hids2 hvs1 hik (asg_name (raw := rawLc2 C (own.map (·.2)) vs1 tgc ik its tgc2 ik2 its2 conds2 ielt) ?_)
  have e : ∀ ρ, ev C false (.lcp2 (own.map (·.2)) vs1 tgc ik its tgc2 ik2 its2 conds2 ielt) ρ = rawLc2 C (own.map (·.2)) vs1 tgc ik its tgc2 ik2 its2 conds2 ielt ρ := fun ρ => rfl
  simpa only [tS, exS, asgT, e] using h
/-- a, b = e -/
theorem ss_asg {ts : List Tg} (ha : Snd X EA W C a ia) (hg : PG X tgE (gT X.K (.tup ts))) (hs : swapsWithSole [tgE] a pos.line X.env = pure false) (hw : swappedStores [tgE] a X.env = pure none) (h1 : (assignEach [tgE] X.env).map (·.2) = [assign tgE X.env]) :
    SndS X EA W C (.Assign [tgE] a pos) (.asg (.tup ts) ia) := PS.imp' (ps_asg ha.v hg hs hw h1) fun D σ H h => by
  obtain ⟨F, ρ, r, h⟩ := h
  simp only [exS, asgT] at h
  refine ⟨F, ρ, r, h.ebind.mono fun y F1 H1 ρ1 g1 s1 h1 v rv => ?_⟩
  obtain ⟨G, rG, sG, rep, _⟩ := share r s1 g1 rv
  replace h1 := h1 G rG sG
  cases e : bindT (.tup ts) y.2 ρ1 with
  | ok u ρ2 =>
    rw [e] at h1
    exact ⟨G, ρ1, y.2, rG, rep, ρ2, e, fun σ' r' b' => h1 G H1 σ' r' b'.step⟩
  | exc c x ρ2 =>
    exfalso
    have hx : ∀ (tg : Tg) (d : PV) (ρ : Rho) (c : Nat) (x : PV) (ρ' : Rho), bindT tg d ρ ≠ .exc c x ρ' := fun tg => by
      refine Tg.rec (motive_1 := fun tg => ∀ (d : PV) (ρ : Rho) (c : Nat) (x : PV) (ρ' : Rho), bindT tg d ρ ≠ .exc c x ρ') (motive_2 := fun ts => ∀ (ds : List PV) (ρ : Rho) (c : Nat) (x : PV) (ρ' : Rho), bindTs ts ds ρ ≠ .exc c x ρ') ?_ ?_ ?_ ?_ tg
      · intro i d ρ c x ρ'
        unfold bindT setV
        split <;> simp
      · intro ts ih d ρ c x ρ'
        unfold bindT
        split
        · split
          · exact ih _ _ _ _ _
          · simp
        · simp
      · intro ds ρ c x ρ'
        unfold bindTs; simp
      · intro t ts ih1 ih2 ds ρ c x ρ'
        cases ds with
        | nil => unfold bindTs; simp
        | cons d ds =>
          unfold bindTs
          cases e : bindT t d ρ with
          | ok u ρ1 => exact ih2 _ _ _ _ _
          | exc _ _ _ => exact absurd e (ih1 _ _ _ _ _)
          | bad => simp
    exact hx _ _ _ _ _ _ e
  | bad => rw [e] at h1; exact h1.elim

/-! ### name op= e -/
def astB1 : BOp → Bool
  | .add => true
  | .sub => true
  | _ => false
theorem ip_of {op : BOp} (h : astB1 op = true) : ∃ f : Int → Int → Int, PIp X (astB op) (ipI f) ∧ ∀ i j : Int, binV op (.int i) (.int j) = some (false, .int (f i j)) := by
  cases op <;> first | (cases h; done) | skip
  · exact ⟨_, ip_add, fun i j => rfl⟩
  · exact ⟨_, ip_sub, fun i j => rfl⟩
theorem ss_aug {i : Nat} {op : BOp} (hop : astB1 op = true) (hN : X.N.Nodup) (hi : X.N[i]? = some x) (hx : Loc X.env.scope x) (hf : X.fn x = true ∨ X.env.scope.names.lookup x = some .local) (ha : Snd X EA W C a ia) :
    SndS X EA W C (.AugAssign (.Name x pos') (astB op) a pos) (.aug i op ia) := by
  obtain ⟨f, hp, hv⟩ := ip_of (X := X) hop
  refine PS.imp' (ps_aug hN hi hx ha.v hp hf) fun D σ H h => ?_
  obtain ⟨F, ρ, r, h⟩ := h
  simp only [exS, peekV] at h
  split at h
  · exact h.elim
  · rename_i s d hne e
    rw [R.bind_ok] at h
    obtain ⟨v, e1⟩ := slot_val r e hne
    have rp := r.seen e hne e1
    refine ⟨v, e1, F, ρ, r, h.ebind.mono fun y F1 H1 ρ1 g1 s1 h1 w rw' => ?_⟩
    obtain ⟨fy, y⟩ := y
    replace h1 := h1 F1 g1 s1
    split at h1
    · rename_i m n e2 e3
      simp only at e2 e3
      subst e2 e3
      rw [hv, R.opt_some, R.bind_ok] at h1
      have ev : v = .int m := rp.int
      have ew : w = .int n := rw'.int
      subst ev ew
      refine ⟨m, n, rfl, rfl, ?_⟩
      cases e4 : setV i false (.int (f m n)) ρ1 with
      | ok u ρ2 =>
        dsimp only at h1
        rw [e4] at h1
        obtain ⟨r2, s2⟩ := set_any (F0 := F1) (H0 := H1) (ρ0 := ρ1) (σ0 := σ) .refl g1 e4 (fr := false) (v := .int (f m n)) rfl (fun _ _ z => nomatch z)
        exact h1 F1 H1 _ r2 s2
      | exc _ _ _ => exact absurd e4 (by unfold setV; split <;> simp)
      | bad => dsimp only at h1; rw [e4] at h1; exact h1.elim
    · exact h1.elim
  · exact h.elim

/-! ### name[i] = e -/
theorem PSet.or' {r r' : TSet} (h : PSet X r) (h' : PSet X r') : PSet X (fun o i v H Q => r o i v H Q ∨ r' o i v H Q) := by
  intro pins s σ H o i v ov iv u Q I ro ri rv q
  rcases q with q | q
  · exact h pins s σ H o i v ov iv u Q I ro ri rv q
  · exact h' pins s σ H o i v ov iv u Q I ro ri rv q
theorem seti_of {K : PySem.W.Frag} {i : Nat} {s : Stt} {d k w d' : PV} {l : Addr} {kv wv : V} {Q : Hp → Prop} (r : Rel K F H ρ σ) (h : ρ[i]? = some (some (s, d))) (m : s.mut = true) (hx : σ[i]? = some (some (.ref l))) (hk : RepP K F H k kv) (hw : Rep K F H w wv)
    (e : setI d k w = some d') (q : ∀ H', Rel K F H' (ρ.set i (some (s, d'))) σ → EStep F H ρ σ F H' (ρ.set i (some (s, d'))) → Q H') : rSetL (.ref l) kv wv H Q ∨ rSetD (.ref l) kv wv H Q := by
  obtain ⟨l', hx', o⟩ := r.ow i s d h m
  rw [hx] at hx'
  cases hx'
  obtain ⟨nf, o⟩ := o
  unfold setI at e
  split at e
  · rename_i xs j
    obtain ⟨ws, h1, h2⟩ := o
    have fin : ∀ jj : Nat, ixN ws.length j = some jj → OwnAt K F (upd H l (.lst (ws.set jj wv))) (.lst (xs.set jj w)) l → d' = .lst (xs.set jj w) → rSetL (.ref l) kv wv H Q ∨ rSetD (.ref l) kv wv H Q := fun jj ej new ed => by
      subst ed
      obtain ⟨g1, g2⟩ := r.mutate h m hx new
      exact .inl ⟨l, ws, j, jj, rfl, hk.int, h1, ej, q _ g1 g2⟩
    have new : ∀ jj : Nat, OwnAt K F (upd H l (.lst (ws.set jj wv))) (.lst (xs.set jj w)) l := fun jj => OwnAt.newL nf (kp_of nf) upd_same (h2.set jj hw)
    split at e
    · rename_i h0
      split at e
      · rename_i hlt
        cases e
        exact fin _ (by unfold ixN; rw [if_pos h0, h2.len, if_pos hlt]) (new _) rfl
      · cases e
    · rename_i h0
      split at e
      · rename_i hlt
        cases e
        exact fin _ (by unfold ixN; rw [if_neg h0, h2.len, if_pos hlt]) (new _) rfl
      · cases e
  · rename_i kd kvs
    split at e
    · rename_i c
      cases e
      obtain ⟨hf, hl⟩ := c
      rcases o with ⟨e0, ks, h1, h2⟩ | ⟨e0, ks, h1, h2⟩
      · subst e0
        obtain ⟨kk, ek⟩ := Option.isSome_iff_exists.mp (show (keyOf k).isSome = true from hf)
        have new : OwnAt K F (upd H l (.dK (putK ks kk wv))) (.dct 0 (dPut kvs k w)) l := ⟨nf, .inl ⟨rfl, _, upd_same, RepKs.keep (fun _ z => z) (kp_of nf) _ _ (h2.put ek hw)⟩⟩
        obtain ⟨g1, g2⟩ := r.mutate h m hx new
        refine .inr ⟨l, _, rfl, ?_, q _ g1 g2⟩
        rw [keyOf_rep ek hk]
        exact DPut.k h1 (by rw [h2.len, sizeLine_eq]; omega)
      · subst e0
        obtain ⟨kk, ek⟩ := Option.isSome_iff_exists.mp (show (tkeyOf k).isSome = true from hf)
        obtain ⟨bb, eb, hb⟩ := tkeyOf_rep ek hk
        have new : OwnAt K F (upd H l (.dT (putK ks kk wv))) (.dct 1 (dPut kvs k w)) l := ⟨nf, .inr ⟨rfl, _, upd_same, RepTs.keep (fun _ z => z) (kp_of nf) _ _ (h2.put ek hw)⟩⟩
        obtain ⟨g1, g2⟩ := r.mutate h m hx new
        refine .inr ⟨l, _, rfl, ?_, q _ g1 g2⟩
        rw [eb]
        exact DPut.t h1 hb (by rw [h2.len, sizeLine_eq]; omega)
    · cases e
  · cases e
theorem ss_seti {i : Nat} (hu : X.A.units + 1 < cLine) (hN : X.N[i]? = some x) (hv : Vis X.env.scope x) (hd : (x == ("__debug__" : Str)) = false) (hcd : (x == ("__classdict__" : Str)) = false) (hb : Snd X EA W C b ib) (ha : Snd X EA W C a ia)
    (hasg : ∀ v, assign (.Subscript (.Name x p) b pos') X.env v = (do
      let ov ← holding [v] (eval (.Name x p) X.env)
      let iv ← holding [v, ov] (eval b X.env)
      standAt pos'
      holding [v, ov, iv] (setItem ov iv v)
      release [v, ov, iv] []))
    (hs : swapsWithSole [.Subscript (.Name x p) b pos'] a pos.line X.env = pure false) (hw : swappedStores [.Subscript (.Name x p) b pos'] a X.env = pure none) (h1 : (assignEach [.Subscript (.Name x p) b pos'] X.env).map (·.2) = [assign (.Subscript (.Name x p) b pos') X.env]) :
    SndS X EA W C (.Assign [.Subscript (.Name x p) b pos'] a pos) (.seti i ib ia) := by
  have base := ps_asg ha.v (pg_sub (pe_var (X := X) (pos := p) hN hv hd hcd) hb.v (PSet.or' set_list (set_dict hu)) hasg) hs hw h1
  refine PS.imp' base fun D σ H h => ?_
  obtain ⟨F, ρ, r, h⟩ := h
  simp only [exS] at h
  refine ⟨F, ρ, r, h.ebind.mono fun y F1 H1 ρ1 g1 s1 h2 w rw1 => ?_⟩
  obtain ⟨G, rG, sG, rep, _⟩ := share r s1 g1 rw1
  replace h2 := h2 G rG sG
  simp only [peekV] at h2
  split at h2
  · exact h2.elim
  · rename_i s0 d0 hne e0
    rw [R.bind_ok] at h2
    obtain ⟨v0, e1⟩ := slot_val rG e0 hne
    refine ⟨v0, e1, G, ρ1, rG, h2.ebind.mono fun k F2 H2 ρ2 g2 s2 h3 kv rk => ?_⟩
    replace h3 := h3 F2 g2 s2
    split at h3
    · rename_i s d e2
      split at h3
      · rename_i m
        split at h3
        · rename_i d' e3
          obtain ⟨l, e4, _⟩ := g2.ow i s d e2 m
          rw [e1] at e4
          cases e4
          exact seti_of g2 e2 m e1 rk.p (rep.step rG s2.1) e3 fun H' q1 q2 => h3 F2 H' σ q1 q2.1
        · exact h3.elim
      · exact h3.elim
    · exact h3.elim
  · exact h2.elim
end
end Cw
set_option Elab.async false
set_option linter.all false
set_option maxRecDepth 100000
set_option maxHeartbeats 4000000
set_option autoImplicit false
/-! Cw, part V: loops, raise -/
namespace Cw
open PySem L2

theorem bindT_exc (tg : Tg) : ∀ (d : PV) (ρ : Rho) (c : Nat) (x : PV) (ρ' : Rho), bindT tg d ρ ≠ .exc c x ρ' := by
  refine Tg.rec (motive_1 := fun tg => ∀ (d : PV) (ρ : Rho) (c : Nat) (x : PV) (ρ' : Rho), bindT tg d ρ ≠ .exc c x ρ') (motive_2 := fun ts => ∀ (ds : List PV) (ρ : Rho) (c : Nat) (x : PV) (ρ' : Rho), bindTs ts ds ρ ≠ .exc c x ρ') ?_ ?_ ?_ ?_ tg
  · intro i d ρ c x ρ'
    unfold bindT setV
    split <;> simp
  · intro ts ih d ρ c x ρ'
    unfold bindT
    split
    · split
      · exact ih _ _ _ _ _
      · simp
    · simp
  · intro ds ρ c x ρ'
    unfold bindTs; simp
  · intro t ts ih1 ih2 ds ρ c x ρ'
    cases ds with
    | nil => unfold bindTs; simp
    | cons d ds =>
      unfold bindTs
      cases e : bindT t d ρ with
      | ok u ρ1 => exact ih2 _ _ _ _ _
      | exc _ _ _ => exact absurd e (ih1 _ _ _ _ _)
      | bad => simp
section
variable {X : Cx} {EA : Nat → Addr} {W : WX} {C : CallSem} {σ σ2 : L2.St} {F F' F1 : FS} {H H' H1 : Hp} {ρ ρ' ρ1 ρ2 ρ3 : Rho} {a b c tgE iter : Expr} {ia ib ic : IE} {pos pos' p : Pos} {x y : Str} {tg : Tg} {ik : Ik} {its : List IE} {sts : List Stmt} {iss : List IS}
/-! ### while -/
theorem ss_whl (hp : PassesOwn (model X.prog X.w) X.A X.env X.xe) (hc : Snd X EA W C c ic) (hb : SndSs X EA W C sts iss) : SndS X EA W C (.While c sts [] pos) (.whl ic iss) := by
  refine PS.imp' (ps_while hp hc.t hb) fun D σ H h => ?_
  obtain ⟨F, ρ, r, h⟩ := h
  simp only [exS] at h
  have hn : ∃ n, whileR (fun ρ => ev C true ic ρ) (fun ρ => exSs C iss ρ) ρ = whileN (fun ρ => ev C true ic ρ) (fun ρ => exSs C iss ρ) n ρ := by
    unfold whileR at h ⊢
    split at h
    · rename_i q; exact ⟨q.choose, by rw [dif_pos q]⟩
    · exact h.elim
  obtain ⟨n, en⟩ := hn
  rw [en] at h
  refine ⟨fun m σ' H' => ∃ F' ρ', Rel X.K F' H' ρ' σ' ∧ postS X.K EA W σ' F' H' ρ' (whileN (fun ρ => ev C true ic ρ) (fun ρ => exSs C iss ρ) m ρ') D, ⟨n, F, ρ, r, h⟩, ?_⟩
  rintro m σ1 H1 ⟨F1, ρ1, r1, h1⟩
  cases m with
  | zero => exact h1.elim
  | succ m =>
    unfold whileN at h1
    refine ⟨F1, ρ1, r1, h1.ebind.mono fun z F2 H2 ρ2 r2 s2 h2 => ?_⟩
    obtain ⟨fz, z⟩ := z
    replace h2 := h2 F2 r2 s2
    split at h2
    · rename_i e; simp only at e; subst e
      refine ⟨true, rfl, ?_⟩
      dsimp only
      rw [if_pos rfl]
      refine ⟨fun σ' H' => ∃ F' ρ', Rel X.K F' H' ρ' σ' ∧ postS X.K EA W σ' F' H' ρ' (whileN (fun ρ => ev C true ic ρ) (fun ρ => exSs C iss ρ) m ρ') D, fun σ' H' q => ⟨m, Nat.lt_succ_self m, q⟩, F2, ρ2, r2, ?_⟩
      cases e2 : exSs C iss ρ2 with
      | bad => rw [e2] at h2; exact h2
      | exc cc xx ρ3 => rw [e2] at h2; exact h2
      | ok f ρ3 =>
        rw [e2, R.bind_ok] at h2
        cases f with
        | nx => exact fun F' H' σ' r' s' => ⟨F', ρ3, r', postS.from h2 s'⟩
        | cnt => exact fun F' H' σ' r' s' => ⟨F', ρ3, r', postS.from h2 s'⟩
        | brk => exact h2
        | ret fr d => exact h2
    · rename_i e; simp only at e; subst e
      refine ⟨false, rfl, ?_⟩
      dsimp only
      rw [if_neg Bool.false_ne_true]
      exact h2 F2 H2 σ1 r2 .refl
    · exact h2.elim

/-! ### for -/
theorem back_own (r : Rel X.K F1 H1 ρ1 σ) (s2 : Step F1 H1 (lendR ik its ρ1) σ F' H' ρ2 σ2) (e : backR ik its ρ1 ρ2 = some ρ3) {a : Addr} (q : OwnA ρ3 σ2 a) : OwnA ρ2 σ2 a ∨ lentA ik its ρ1 σ a := by
  unfold backR at e
  split at e
  · rename_i i ei
    split at e
    · rename_i s d h
      split at e
      · rename_i m
        split at e
        · rename_i d2 hl
          cases e
          obtain ⟨j, t, e', hj, hm, hv⟩ := q
          by_cases c : i = j
          · subst c
            have hsame : σ2[i]? = σ[i]? := (s2.pn i .lnt d2 hl rfl).1
            rw [hsame] at hv
            exact .inr ⟨i, s, d, ei, h, m, hv⟩
          · rw [set_ne c] at hj
            exact .inl ⟨j, t, e', hj, hm, hv⟩
        · cases e
      · cases e; exact .inl q
    · cases e; exact .inl q
  · cases e; exact .inl q
theorem back_ret (r : Rel X.K F1 H1 ρ1 σ) (s2 : Step F1 H1 (lendR ik its ρ1) σ F' H' ρ2 σ2) (e : backR ik its ρ1 ρ2 = some ρ3) {fr : Bool} {d : PV} {v : V} (h : RetS X.K F1 H1 (lendR ik its ρ1) σ F' H' ρ2 σ2 fr d v) : RetS X.K F1 H1 ρ1 σ F' H' ρ3 σ2 fr d v := by
  cases fr with
  | false => exact h
  | true =>
    obtain ⟨a, ev, o, h1, h2⟩ := h
    refine ⟨a, ev, o, h1.imp_right fun z => lend_own r z, fun q => ?_⟩
    rcases back_own r s2 e q with q | q
    · exact h2 q
    · rcases h1 with h1 | h1
      · obtain ⟨i, s, d', _, h3, m, hv⟩ := q
        obtain ⟨l, hl, ol⟩ := r.ow i s d' h3 m
        rw [hv] at hl
        cases hl
        obtain ⟨u, hu⟩ := ol.live
        rw [hu] at h1; cases h1
      · exact lent_own r q h1
theorem ss_for (hp : PassesOwn (model X.prog X.w) X.A X.env X.xe) (hcalm : X.calm = true) (hi : PI X tgE iter (iR X.K EA W C ik its)) (hg : PG X tgE (gT X.K tg)) (hb : SndSs X EA W C sts iss) (hs : ∀ x, foldedSetIterable iter X.env x = pure x) :
    SndS X EA W C (.For tgE iter sts [] pos) (.for_ tg ik its iss) := by
  refine PS.imp' (ps_for hp hcalm hi hg hb hs) fun D σ H h => ?_
  obtain ⟨F, ρ, r, h⟩ := h
  simp only [exS] at h
  refine ⟨F, ρ, r, h.ebind.mono fun ds F1 H1 ρ1 g1 s1 h1 J wJ => ?_⟩
  replace h1 := h1 F1 g1 s1
  have rl : Rel X.K F1 H1 (lendR ik its ρ1) σ := g1.lend ik its
  replace wJ := wJ (OwnA (lendR ik its ρ1) σ) (fun a f o => (rl.notF o).1 f) (fun a z => lent_own g1 z)
  refine ⟨fun i m σ' H' => ∃ F' ρ', m = ds.length - i ∧ i ≤ ds.length ∧ Rel X.K F' H' ρ' σ' ∧ Step F1 H1 (lendR ik its ρ1) σ F' H' ρ' σ' ∧ postS X.K EA W σ F1 H1 ρ1 ((forLoop (fun x ρ => bindT tg x ρ) (fun ρ => exSs C iss ρ) (ds.drop i) ρ').back ik its ρ1) D,
    ⟨ds.length, F1, _, rfl, Nat.zero_le _, rl, .refl, h1⟩, ?_⟩
  rintro i m σ2 H2 ⟨F2, ρ2, rfl, hle, r2, s2, h2⟩
  by_cases hlt : i < ds.length
  · refine .inr ⟨wJ.go F2 H2 i s2.aft hlt, fun σ' H' => ∃ F' ρ', i + 1 ≤ ds.length ∧ Rel X.K F' H' ρ' σ' ∧ Step F1 H1 (lendR ik its ρ1) σ F' H' ρ' σ' ∧ postS X.K EA W σ F1 H1 ρ1 ((forLoop (fun x ρ => bindT tg x ρ) (fun ρ => exSs C iss ρ) (ds.drop (i + 1)) ρ').back ik its ρ1) D,
      fun σ' H' ⟨F', ρ', q1, q2, q3, q4⟩ => ⟨ds.length - (i + 1), by omega, F', ρ', rfl, q1, q2, q3, q4⟩, fun v H3 y => ?_⟩
    obtain ⟨F3, r3, s3, rep⟩ := wJ.yld F2 H2 ρ2 σ2 i v H3 _ s2.aft r2 y (List.getElem?_eq_getElem hlt)
    rw [drop_cons hlt] at h2
    unfold forLoop at h2
    cases e1 : bindT tg ds[i] ρ2 with
    | exc _ _ _ => exact absurd e1 (bindT_exc _ _ _ _ _ _)
    | bad => rw [e1] at h2; exact h2.elim
    | ok u ρb =>
    rw [e1, R.bind_ok] at h2
    refine ⟨F3, ρ2, _, r3, rep, ρb, e1, fun σ3 rb bb => ⟨F3, ρb, rb, ?_⟩⟩
    have sb : Step F1 H1 (lendR ik its ρ1) σ F3 H3 ρb σ3 := (s2.trans s3.1).trans bb.step
    cases e2 : exSs C iss ρb with
    | bad => rw [e2] at h2; exact h2
    | exc cc xx ρ3 =>
      rw [e2, R.bind_exc] at h2
      unfold R.back at h2
      dsimp only at h2
      cases eb : backR ik its ρ1 ρ3 with
      | none => rw [eb] at h2; exact h2.elim
      | some ρ4 =>
        rw [eb] at h2
        intro F' H' σ' cls dd r' s' ex
        obtain ⟨q1, q2, _⟩ := lend_back g1 r' (sb.trans s') eb
        exact h2 F' H' σ' cls dd q1 q2 ex
    | ok f ρ3 =>
      rw [e2, R.bind_ok] at h2
      cases f with
      | nx => exact fun F' H' σ' r' s' => ⟨F', ρ3, hlt, r', sb.trans s', h2⟩
      | cnt => exact fun F' H' σ' r' s' => ⟨F', ρ3, hlt, r', sb.trans s', h2⟩
      | brk =>
        unfold R.back at h2
        dsimp only at h2
        cases eb : backR ik its ρ1 ρ3 with
        | none => rw [eb] at h2; exact h2.elim
        | some ρ4 =>
          rw [eb] at h2
          intro F' H' σ' r' s'
          obtain ⟨q1, q2, _⟩ := lend_back g1 r' (sb.trans s') eb
          exact h2 F' H' σ' q1 q2
      | ret fr d =>
        unfold R.back at h2
        dsimp only at h2
        cases eb : backR ik its ρ1 ρ3 with
        | none => rw [eb] at h2; exact h2.elim
        | some ρ4 =>
          rw [eb] at h2
          intro F' H' σ' v' r' s' rv
          obtain ⟨q1, q2, _⟩ := lend_back g1 r' (sb.trans s') eb
          exact h2 F' H' σ' v' q1 q2 (back_ret g1 (sb.trans s') eb (rv.back sb))
  · have ei : i = ds.length := by omega
    subst ei
    refine .inl ⟨wJ.stop F2 H2 _ s2.aft rfl, ?_⟩
    rw [List.drop_length] at h2
    unfold forLoop R.back at h2
    dsimp only at h2
    cases eb : backR ik its ρ1 ρ2 with
    | none => rw [eb] at h2; exact h2.elim
    | some ρ4 =>
      rw [eb] at h2
      obtain ⟨q1, q2, _⟩ := lend_back g1 r2 s2 eb
      exact h2 F2 H2 σ2 q1 q2

/-! ### raise -/
theorem ss_raise {cn : Nat} (hcalm : X.calm = true) (tk : Takes X W) (he : PMk X a (fun _ H Q => Q (.ref (EA cn)) none H)) : SndS X EA W C (.Raise (some a) none pos) (.raise cn) :=
  PS.imp' (L2N.ps_raise hcalm tk he) fun D σ H h => by
    obtain ⟨F, ρ, r, h⟩ := h
    exact h F H σ _ _ r .refl ⟨rfl, rfl, rfl⟩
end
end Cw
set_option Elab.async false
set_option linter.all false
set_option maxRecDepth 100000
set_option maxHeartbeats 4000000
set_option autoImplicit false
/-! Cw, part W: defs -/
namespace Cw
open PySem L2

section
variable {K : PySem.W.Frag} {EA : Nat → Addr} {σ σ' : L2.St} {F F' : FS} {H H' : Hp} {ρ ρ' : Rho} {as : List Slot} {vs : List V} {N : List Str}
theorem pad_at {n : Nat} {p : Nat} {s : Stt} {d : PV} (h : (as ++ List.replicate n none)[p]? = some (some (s, d))) : as[p]? = some (some (s, d)) := by
  by_cases c : p < as.length
  · rwa [List.getElem?_append_left c] at h
  · rw [List.getElem?_append_right (by omega), List.getElem?_replicate] at h
    split at h <;> cases h
theorem start_at {p : Nat} (h : p < vs.length) : (L2.start N vs)[p]? = (vs.map some)[p]? := by
  unfold L2.start
  rw [List.getElem?_append_left (by rw [List.length_map]; exact h)]
theorem Rel.lt {i : Nat} {x : Slot} (h : ρ[i]? = some x) : i < ρ.length := by
  rcases Nat.lt_or_ge i ρ.length with z | z
  · exact z
  · rw [List.getElem?_eq_none z] at h; cases h
theorem Rel.pad (r : Rel K F H as (vs.map some)) (hl : vs.length ≤ N.length) : Rel K F H (as ++ List.replicate (N.length - vs.length) none) (L2.start N vs) := by
  have la : as.length = vs.length := by rw [r.len, List.length_map]
  have g : ∀ {p : Nat} {s : Stt} {d : PV}, (as ++ List.replicate (N.length - vs.length) none)[p]? = some (some (s, d)) → as[p]? = some (some (s, d)) ∧ (L2.start N vs)[p]? = (vs.map some)[p]? := fun {p s d} h => by
    have q := pad_at h
    exact ⟨q, start_at (by have := Rel.lt q; omega)⟩
  refine ⟨by rw [List.length_append, List.length_replicate, la]; unfold L2.start; rw [List.length_append, List.length_map, List.length_replicate], r.ft, fun p s d h m => ?_, fun p s d h m => ?_, fun p q s d s' d' a h m h' m' hv hv' => ?_⟩
  · rw [(g h).2]; exact r.rd p s d (g h).1 m
  · rw [(g h).2]; exact r.ow p s d (g h).1 m
  · rw [(g h).2] at hv
    rw [(g h').2] at hv'
    exact r.ap p q s d s' d' a (g h).1 m (g h').1 m' hv hv'
theorem pad_own (r : Rel K F H as (vs.map some)) {n : Nat} {a : Addr} (h : OwnA (as ++ List.replicate n none) (L2.start N vs) a) : OwnA as (vs.map some) a := by
  obtain ⟨p, s, d, h1, m, hv⟩ := h
  have q := pad_at h1
  have : p < vs.length := by have := Rel.lt q; rw [r.len, List.length_map] at this; exact this
  rw [start_at this] at hv
  exact ⟨p, s, d, q, m, hv⟩
theorem outSlot_pin {x : Slot} {s : Stt} {d : PV} (h : outSlot x = some (s, d)) : x = some (s, d) ∧ s.pin = true := by
  unfold outSlot at h
  split at h
  · cases h; exact ⟨rfl, rfl⟩
  · cases h; exact ⟨rfl, rfl⟩
  · cases h
theorem out_at {np p : Nat} {s : Stt} {d : PV} (h : (outsOf np ρ)[p]? = some (some (s, d))) : p < np ∧ ρ[p]? = some (some (s, d)) ∧ s.pin = true := by
  unfold outsOf at h
  rw [List.getElem?_map] at h
  by_cases hlt : p < np
  · rw [List.getElem?_range hlt] at h
    have h : outSlot (ρ.getD p none) = some (s, d) := by simpa using h
    obtain ⟨ex, hp⟩ := outSlot_pin h
    refine ⟨hlt, ?_, hp⟩
    rw [List.getD_eq_getElem?_getD] at ex
    cases e : ρ[p]? with
    | none => rw [e] at ex; cases ex
    | some x => rw [e] at ex; rw [show x = some (s, d) from ex]
  · rw [List.getElem?_eq_none (by rw [List.length_range]; omega)] at h; cases h
theorem outs_len {np : Nat} : (outsOf np ρ).length = np := by unfold outsOf; rw [List.length_map, List.length_range]
/-- from the body's end to the caller -/
theorem leave_rel (r : Rel K F H as (vs.map some)) (hl : vs.length ≤ N.length) (r' : Rel K F' H' ρ' σ') (s' : Step F H (as ++ List.replicate (N.length - vs.length) none) (L2.start N vs) F' H' ρ' σ') :
    Rel K F' H' (outsOf vs.length ρ') (vs.map some) ∧ Step F H as (vs.map some) F' H' (outsOf vs.length ρ') (vs.map some) := by
  have g : ∀ {p : Nat} {s : Stt} {d : PV}, (outsOf vs.length ρ')[p]? = some (some (s, d)) → ρ'[p]? = some (some (s, d)) ∧ s.pin = true ∧ σ'[p]? = (vs.map some)[p]? ∧ ∃ s0 d0, as[p]? = some (some (s0, d0)) ∧ s0.pin = true ∧ (s = s0 ∨ s = .frp) := fun {p s d} h => by
    obtain ⟨q1, q2, q3⟩ := out_at h
    obtain ⟨q4, s0, d0, q5, q6, q7⟩ := s'.pn p s d q2 q3
    exact ⟨q2, q3, by rw [q4, start_at q1], s0, d0, pad_at q5, q6, q7⟩
  refine ⟨⟨by rw [outs_len, List.length_map], r'.ft, fun p s d h m => ?_, fun p s d h m => ?_, fun p q s d s' d' a h m h' m' hv hv' => ?_⟩, ⟨fun a o e n => s'.fr a o e fun q => n (pad_own r q), s'.al, s'.ff, fun a f => (s'.fn a f).imp_right fun z => z.imp_right (pad_own r), fun a q => ?_, fun p s d h m => ?_⟩⟩
  · obtain ⟨q1, q2, q3, _⟩ := g h
    rw [← q3]; exact r'.rd p s d q1 m
  · obtain ⟨q1, q2, q3, _⟩ := g h
    rw [← q3]; exact r'.ow p s d q1 m
  · obtain ⟨q1, q2, q3, _⟩ := g h
    obtain ⟨t1, t2, t3, _⟩ := g h'
    rw [← q3] at hv
    rw [← t3] at hv'
    exact r'.ap p q s d s' d' a q1 m t1 m' hv hv'
  · obtain ⟨p, s, d, h, m, hv⟩ := q
    obtain ⟨q1, q2, q3, _⟩ := g h
    rw [← q3] at hv
    exact (s'.ow a ⟨p, s, d, q1, m, hv⟩).imp_left (pad_own r)
  · obtain ⟨q1, q2, q3, q4⟩ := g h
    exact ⟨rfl, q4⟩
theorem leave_exc (r : Rel K F H as (vs.map some)) (r' : Rel K F' H' ρ' σ') (s' : Step F H (as ++ List.replicate (N.length - vs.length) none) (L2.start N vs) F' H' ρ' σ') :
    Rel K F' H' (as.map fun _ => none) (vs.map some) ∧ Step F H as (vs.map some) F' H' (as.map fun _ => none) (vs.map some) := by
  have no : ∀ {p : Nat} {s : Stt} {d : PV}, (as.map fun _ => (none : Slot))[p]? = some (some (s, d)) → False := fun {p s d} h => by
    rw [List.getElem?_map] at h
    cases e : as[p]? with
    | none => rw [e] at h; cases h
    | some x => rw [e] at h; cases h
  refine ⟨⟨by rw [List.length_map]; exact r.len, r'.ft, fun p s d h => (no h).elim, fun p s d h => (no h).elim, fun p q s d s' d' a h => (no h).elim⟩, ⟨fun a o e n => s'.fr a o e fun q => n (pad_own r q), s'.al, s'.ff, fun a f => (s'.fn a f).imp_right fun z => z.imp_right (pad_own r), fun a q => ?_, fun p s d h => (no h).elim⟩⟩
  obtain ⟨p, s, d, h, _⟩ := q
  exact (no h).elim
theorem pinsOk_at : ∀ {as : List Slot} {ρ : Rho} {p : Nat} {d : PV}, pinsOk as ρ = true → as[p]? = some (some (.par, d)) → ∃ s d', ρ[p]? = some (some (s, d')) ∧ (s = .par ∨ (s = .frp ∧ ((∃ xs, d' = .lst xs) ∨ ∃ k kvs, d' = .dct k kvs)))
  | [], _, _, _, _, e => by simp at e
  | x :: as, [], _, _, h, _ => by
    unfold pinsOk at h
    cases x with
    | none => cases h
    | some x => obtain ⟨s, d⟩ := x; cases s <;> cases h
  | x :: as, y :: ρ, 0, d, h, e => by
    simp at e
    subst e
    unfold pinsOk at h
    rw [Bool.and_eq_true] at h
    obtain ⟨h, _⟩ := h
    split at h
    · exact ⟨_, _, rfl, .inl rfl⟩
    · exact ⟨_, _, rfl, .inr ⟨rfl, .inl ⟨_, rfl⟩⟩⟩
    · exact ⟨_, _, rfl, .inr ⟨rfl, .inr ⟨_, _, rfl⟩⟩⟩
    · cases h
  | x :: as, y :: ρ, p + 1, d, h, e => by
    have h' : pinsOk as ρ = true := by
      unfold pinsOk at h
      split at h
      · rename_i q; cases q
      · rename_i q1 q2; cases q1; cases q2; rw [Bool.and_eq_true] at h; exact h.2
      · rename_i q1 q2; cases q1; cases q2; exact h
      · cases h
    obtain ⟨s, d', h1, h2⟩ := pinsOk_at (p := p) h' (by simpa using e)
    exact ⟨s, d', by simpa using h1, h2⟩
theorem argsOk_at : ∀ {as : List Slot} {p : Nat} {s : Stt} {d : PV}, argsOk as = true → as[p]? = some (some (s, d)) → s.mut = true → s = .par
  | [], _, _, _, _, e, _ => by simp at e
  | x :: as, 0, s, d, h, e, m => by
    simp at e
    subst e
    cases s <;> first | rfl | (cases m; done) | (unfold argsOk at h; cases h)
  | x :: as, p + 1, s, d, h, e, m => by
    have h' : argsOk as = true := by
      unfold argsOk at h
      split at h
      · rename_i q; cases q
      · rename_i q; cases q; exact h
      · rename_i q; cases q; exact h
      · cases h
    exact argsOk_at (p := p) h' (by simpa using e) m
end

/-- what is known at each entry of a def -/
structure Known (T : Tab) (EA : Nat → Addr) (P : Program) (w : World) (K : PySem.W.Frag) (mg : Str → Option Value) (base : Heap) (k : Nat) (C : CallSem) : Prop where
  fns : ∀ (f : Nat) x, T.fns[f]? = some x → ∃ fa fd ps, mg x = some (.ref fa) ∧ PySem.W.keepIn K (.ref fa) = true ∧ Binds K fd ps [] ∧ (∀ as, C f as ≠ .bad → as.length = ps.length) ∧ FnG P w K mg base k fa fd ps (spC K EA ps.length (C f))
  free : ∀ x ∈ T.free, mg x = none
  nums : ∀ x v, (x, v) ∈ T.nums → ∃ t, mg x = some (.int v t)
/-- a body is sound in every context of its kind -/
def BodyOk (T : Tab) (EA : Nat → Addr) (K : PySem.W.Frag) (mg : Str → Option Value) (N : List Str) (scope : Scope) (C : CallSem) (k : Nat) (body : List Stmt) (iss : List IS) : Prop :=
  k ≠ 0 → ∀ (X : Cx) (W : WX), X.K = K → X.mg = mg → GX T EA X N scope (fun _ => true) k C → Takes X W → PassesOwn (model X.prog X.w) X.A X.env X.xe → X.stack = X.env :: X.outer → X.env.frame = some X.env.locals → SndSs X EA W C body iss
theorem fnG_body {T : Tab} {EA : Nat → Addr} {P : Program} {w : World} {K : PySem.W.Frag} {mg : Str → Option Value} {base : Heap} {k : Nat} {C : CallSem} {f : Addr} {name qual : Str} {params : Arguments} {body : List Stmt} {scope : Scope} {dV kV doc pm cdv ct oc : Value} {an od : Option Addr}
    {osl : Array (Option Value)} {N ps : List Str} {fn : Fn} (lk : K.lookup f = some ⟨oc, od, .func (PySem.W.fnOf name qual params body scope dV kV doc pm an cdv ct), osl⟩) (hcd : PySem.W.codeIn K cdv qual = true) (S : FnScope N ps scope) (hnp : fn.np = ps.length) (hnn : fn.nn = N.length)
    (kn : Known T EA P w K mg base k C) (hk0 : k ≠ 0) (hb : BodyOk T EA K mg N scope C k body fn.body) : FnG P w K mg base (k + 1) f (PySem.W.fnOf name qual params body scope dV kV doc pm an cdv ct) ps (spC K EA ps.length (callF fn C)) := by
  have hple : ps.length ≤ N.length := by
    have := congrArg List.length S.pre
    rw [List.length_take] at this
    omega
  have hlen : ∀ vs H Q E, spC K EA ps.length (callF fn C) vs H Q E → vs.length = ps.length := fun vs H Q E ⟨F, as, r, hl, _⟩ => by
    have := r.len
    rw [List.length_map] at this
    omega
  refine ⟨hlen, fun A outer s H args us vs Q E room gu env0 bt rel hsp => ?_⟩
  have lvs := hlen _ _ _ _ hsp
  obtain ⟨F, as, r, las, hsp⟩ := hsp
  have kin : K.In s.heap := env0.mod.kin.keeps fun b o e => (env0.bs b o e).1
  have nolim : s.heap.NoLimit := env0.mod.nolimit.keeps fun b o e => (env0.bs b o e).1
  refine codeAny_call_function room.depth (kin _ _ lk) rfl S.co S.gen rfl (PySem.W.codeRec_of kin hcd) (bt _ _ _ _ ?_)
  refine wpAny_newFunctionEnv_cells S.kind (fun ⟨n, v⟩ hy => (S.par n (List.of_mem_zip hy).1).imp_right fun q => ⟨q, PySem.W.cellsFrom_some _ _ _ (.inl q)⟩) fun en he s1 x => ?_
  subst he
  refine ⟨nolim.keeps x.toInCall.keep, codeAny_func ?_⟩
  let X := cxOf (L2N.CX P w) P w K mg base N qual scope f cdv A outer s H E
  have gx : GX T EA X N scope (fun _ => true) k C := ⟨rfl, S.nd, rfl, fun _ => rfl, rfl, gu, room.deeper _, kn.fns, kn.free, kn.nums⟩
  have tk : Takes X (fun cls dd _ H => E cls dd H) := L2N.takes_of rfl rfl rfl rfl
  have po : PassesOwn (model X.prog X.w) X.A X.env X.xe := L2.passes_of (X := X) rfl
  have snd := hb hk0 X _ rfl rfl gx tk po rfl rfl
  have I : Inv X [] (L2.start N vs) H s1 := inv_start S room.hd env0 lvs rel x
  have rp := r.pad (N := N) (by omega)
  have key : postS K EA (fun cls dd _ H => E cls dd H) (L2.start N vs) F H (as ++ List.replicate (N.length - vs.length) none) (exSs C fn.body (as ++ List.replicate (N.length - vs.length) none)) { nx := fun _ H' => Q .non H', rt := Q } := by
    unfold callF at hsp
    by_cases c : as.length = fn.np ∧ argsOk as = true
    · rw [if_pos c, hnn, show N.length - fn.np = N.length - vs.length by omega] at hsp
      have hnv : fn.np = vs.length := by omega
      cases e : exSs C fn.body (as ++ List.replicate (N.length - vs.length) none) with
      | bad => rw [e] at hsp; exact hsp.elim
      | exc cc xx ρ1 =>
        rw [e] at hsp
        intro F' H' σ' cls dd r' s' ex
        obtain ⟨q1, q2⟩ := leave_exc r r' s'
        exact hsp F' H' cls dd q1 q2 ex
      | ok fl ρ1 =>
        rw [e] at hsp
        cases fl with
        | brk => exact hsp.elim
        | cnt => exact hsp.elim
        | nx =>
          intro F' H' σ' r' s'
          obtain ⟨q1, q2⟩ := leave_rel r (by omega) r' s'
          dsimp only at hsp
          rw [hnv] at hsp
          exact hsp F' H' .non q1 q2 rfl
        | ret fr d =>
          dsimp only at hsp
          by_cases c2 : (!fr || pinsOk as ρ1) = true
          · rw [if_pos c2, hnv] at hsp
            intro F' H' σ' v r' s' rv
            obtain ⟨q1, q2⟩ := leave_rel r (by omega) r' s'
            refine hsp F' H' v q1 q2 ?_
            cases fr with
            | false => exact rv
            | true =>
              obtain ⟨a, ev, o, h1, h2⟩ := rv
              refine ⟨a, ev, o, h1.resolve_right fun q => ?_⟩
              obtain ⟨p, s0, d0, h3, m, hv⟩ := pad_own r q
              have es : s0 = .par := argsOk_at c.2 h3 m
              subst es
              obtain ⟨t, d', h4, h5⟩ := pinsOk_at (by simpa using c2) h3
              have hp : p < vs.length := by have := Rel.lt h3; omega
              have tp : t.pin = true := by rcases h5 with h5 | ⟨h5, _⟩ <;> (subst h5; rfl)
              have hs : σ'[p]? = some (some (.ref a)) := by rw [(s'.pn p t d' h4 tp).1, start_at hp]; exact hv
              rcases h5 with h5 | ⟨h5, h6⟩
              · subst h5
                exact h2 ⟨p, _, d', h4, rfl, hs⟩
              · subst h5
                obtain ⟨u, hu, ru⟩ := r'.rd p _ d' h4 rfl
                rw [hs] at hu
                cases hu
                rcases h6 with ⟨xs, h6⟩ | ⟨kk, kvs, h6⟩
                · subst h6
                  obtain ⟨l, ws, el, hf, _⟩ := ru
                  cases el
                  exact o.1 hf.1
                · subst h6
                  obtain ⟨l, el, hf, _⟩ := ru
                  cases el
                  exact o.1 hf
          · rw [if_neg c2] at hsp; exact hsp.elim
    · rw [if_neg c] at hsp; exact hsp.elim
  refine wpAny_mono (snd.run [] s1 (L2.start N vs) H { nx := fun _ H' => Q .non H', rt := Q } I ⟨F, _, rp, key⟩) (fun fl s' hs => ?_) fun e s' hs => hs
  cases fl with
  | ret u =>
    obtain ⟨v, σ', H', J, rv, q⟩ := hs
    exact ⟨v, H', J.os, J.bare, J.base, J.hok, rv, q⟩
  | next =>
    obtain ⟨σ', H', J, q⟩ := hs
    exact ⟨.non, H', J.os, J.bare, J.base, J.hok, rfl, q⟩
  | brk => obtain ⟨_, _, _, q⟩ := hs; exact q.elim
  | cont => obtain ⟨_, _, _, q⟩ := hs; exact q.elim
/-- what the text holds of one def -/
structure DefAt (T : Tab) (EA : Nat → Addr) (P : Program) (w : World) (K : PySem.W.Frag) (mg : Str → Option Value) (tbl : List Fn) (f : Nat) (x : Str) : Prop where
  ex : ∃ (fa : Addr) (name qual : Str) (params : Arguments) (body : List Stmt) (scope : Scope) (dV kV doc pm cdv ct oc : Value) (an od : Option Addr) (osl : Array (Option Value)) (N ps : List Str) (fn : Fn),
    mg x = some (.ref fa) ∧ PySem.W.keepIn K (.ref fa) = true ∧ Binds K (PySem.W.fnOf name qual params body scope dV kV doc pm an cdv ct) ps [] ∧
    K.lookup fa = some ⟨oc, od, .func (PySem.W.fnOf name qual params body scope dV kV doc pm an cdv ct), osl⟩ ∧ PySem.W.codeIn K cdv qual = true ∧ FnScope N ps scope ∧ tbl[f]? = some fn ∧ fn.np = ps.length ∧ fn.nn = N.length ∧
    ∀ (C : CallSem) (k : Nat), BodyOk T EA K mg N scope C k body fn.body
theorem callF_len {fn : Fn} {C : CallSem} {as : List Slot} (h : callF fn C as ≠ .bad) : as.length = fn.np := by
  unfold callF at h
  by_cases c : as.length = fn.np ∧ argsOk as = true
  · exact c.1
  · rw [if_neg c] at h; exact absurd rfl h
theorem known_all {T : Tab} {EA : Nat → Addr} {P : Program} {w : World} {K : PySem.W.Frag} {mg : Str → Option Value} {base : Heap} {tbl : List Fn} (defs : ∀ (f : Nat) x, T.fns[f]? = some x → DefAt T EA P w K mg tbl f x)
    (free : ∀ x ∈ T.free, mg x = none) (nums : ∀ x v, (x, v) ∈ T.nums → ∃ t, mg x = some (.int v t)) : ∀ k, Known T EA P w K mg base (k + 1) (evalCall tbl k)
  | 0 => ⟨fun f x hf => by
      obtain ⟨fa, name, qual, params, body, scope, dV, kV, doc, pm, cdv, ct, oc, an, od, osl, N, ps, fn, h1, h2, h3, h4, h5, h6, h7, h8, h9, h10⟩ := (defs f x hf).ex
      refine ⟨fa, _, ps, h1, h2, h3, fun as z => absurd rfl z, fun vs H Q E ⟨_, _, _, _, z⟩ => z.elim, fun A outer s H args us vs Q E _ _ _ _ _ ⟨_, _, _, _, z⟩ => z.elim⟩, free, nums⟩
  | k + 1 => ⟨fun f x hf => by
      have kn := known_all (base := base) defs free nums k
      obtain ⟨fa, name, qual, params, body, scope, dV, kV, doc, pm, cdv, ct, oc, an, od, osl, N, ps, fn, h1, h2, h3, h4, h5, h6, h7, h8, h9, h10⟩ := (defs f x hf).ex
      have e : evalCall tbl (k + 1) f = callF fn (evalCall tbl k) := by
        funext as
        simp only [evalCall, h7]
      refine ⟨fa, _, ps, h1, h2, h3, fun as z => ?_, ?_⟩
      · rw [e] at z; rw [callF_len z, h8]
      · rw [e]; exact fnG_body h4 h5 h6 h8 h9 kn (by omega) (h10 _ (k + 1)), free, nums⟩
end Cw
set_option Elab.async false
set_option linter.all false
set_option maxRecDepth 100000
set_option maxHeartbeats 4000000
set_option autoImplicit false
/-! Cw, part X: from the text to the small language -/
namespace Cw
open PySem L2

/-- where a text stands: the names of the def, the block's scope, which names are hot, what is known of the module; the kind of an empty dict -/
structure Cc where
  N : List Str
  sc : Scope
  fb : Str → Bool
  T : Tab
  dk : Nat
def dunder (x : Str) : Bool := (x == ("__debug__" : Str)) || (x == ("__classdict__" : Str)) || (x == ("__name__" : Str))
def visB (c : Cc) (x : Str) : Bool := match c.sc.names.lookup x with
  | some .local => true
  | some .cell => true
  | some .free => true
  | _ => false
def locB (c : Cc) (x : Str) : Bool := match c.sc.names.lookup x with
  | some .local => true
  | some .cell => true
  | _ => false
def glB (c : Cc) (x : Str) : Bool := match c.sc.names.lookup x with
  | some .globalImplicit => !dunder x
  | _ => false
def slotOf (c : Cc) (x : Str) : Option Nat := (c.N.findIdx? (· == x)).bind fun i => if c.N[i]? = some x ∧ visB c x = true ∧ dunder x = false then some i else none
def fnOfName (c : Cc) (x : Str) : Option Nat := (c.T.fns.findIdx? (· == x)).bind fun i => if c.T.fns[i]? = some x then some i else none
def freeB (c : Cc) (x : Str) : Bool := c.T.free.contains x
def isStar : Expr → Bool
  | .Starred _ _ => true
  | _ => false
def isSlice : Expr → Bool
  | .Slice _ _ _ _ => true
  | _ => false
def isLc : Expr → Bool
  | .ListComp _ _ _ _ => true
  | .SetComp _ _ _ _ => true
  | .DictComp _ _ _ _ _ => true
  | _ => false
def isSet : Expr → Bool
  | .Set _ _ _ => true
  | _ => false
abbrev CE := Expr → Option IE
def cL (f : CE) : List Expr → Option (List IE)
  | [] => some []
  | e :: es => if isStar e = true then none else (f e).bind fun ie => (cL f es).map fun t => ie :: t
def cConst : Const → Option IE
  | .int i => some (.cst (.int i))
  | .bool b => some (.cst (.bl b))
  | .none => some (.cst .non)
  | .str x => some (.cst (.str x.cps.toList))
  | _ => none
def cName (c : Cc) (x : Str) : Option IE := match slotOf c x with
  | some i => some (.var i)
  | none => if glB c x = true then (match c.T.nums.find? fun y => y.1 == x with
      | some y => if y.1 = x then some (.gint x y.2) else none
      | none => none) else none
def cTup (f : CE) : List Expr → Option IE
  | .Starred a _ :: es => (f a).bind fun ia => (cL f es).map fun ies => .tupS ia ies
  | es => (cL f es).map .tup
def bopOf : Operator → Option BOp
  | .Add => some .add | .Sub => some .sub | .Mult => some .mul | .FloorDiv => some .fdiv | .Mod => some .mod | .Pow => some .pow
  | _ => none
def copOf : CmpOp → Option COp
  | .Lt => some .lt | .LtE => some .le | .Gt => some .gt | .GtE => some .ge | .Eq => some .eq | .NotEq => some .ne | .In => some .isin | .NotIn => some .notin
  | _ => none
def cBool (op : BoolOp) (f : CE) : List Expr → Option IE
  | [] => none
  | [_] => none
  | [a, b] => (f a).bind fun ia => (f b).map fun ib => match op with | .And => .and ia ib | .Or => .or ia ib
  | a :: b :: d :: r => (f a).bind fun ia => (cBool op f (b :: d :: r)).map fun ib => match op with | .And => .and ia ib | .Or => .or ia ib
def isNone : Expr → Bool
  | .Constant .none _ _ => true
  | _ => false
def cCmp1 (f : CE) (a : Expr) (op : CmpOp) (b : Expr) : Option IE := match op with
  | .Is => if isNone b = true then (f a).map (.isN false) else none
  | .IsNot => if isNone b = true then (f a).map (.isN true) else none
  | op => (copOf op).bind fun o => if behindInMarks (astC o) b = false then (f a).bind fun ia => (f b).map fun ib => .cmp o ia ib else none
def cCmp (f : CE) (a : Expr) : List CmpOp → List Expr → Option IE
  | [op], [b] => cCmp1 f a op b
  | [o1, o2], [b, d] => (copOf o1).bind fun p1 => (copOf o2).bind fun p2 => if lastMarks [astC p1, astC p2] [b, d] = false then (f a).bind fun ia => (f b).bind fun ib => (f d).map fun ic => .chain p1 p2 ia ib ic else none
  | _, _ => none
def isCstNon : IE → Bool
  | .cst .non => true
  | _ => false
def cO (f : CE) : Option Expr → Option IE
  | none => some (.cst .non)
  | some e => (f e).bind fun ie => if isCstNon ie = true then none else some ie
def cSub (f : CE) (a i : Expr) : Option IE := match i with
  | .Slice lo hi st _ => if st.isNone = true then (f a).bind fun ia => (cO f lo).bind fun il => (cO f hi).map fun ih => .slc ia il ih else none
  | i => (f a).bind fun ia => (f i).map fun ii => .idx ia ii
def biOf (x : Str) : Option Bi := [Bi.len, .abs, .all, .any, .sum, .tuple, .list, .int, .sorted, .max, .min, .repr].find? fun b => x == biN b
def miOf (x : Str) : Option Mi := [Mi.append, .extend, .pop, .update].find? fun b => x == miN b
/-- sorted(set(a)) -/
def ssetB (c : Cc) (x : Str) (es : List Expr) : Option Expr := match es with
  | [.Call (.Name y _) [a] [] _] => if x = "sorted" ∧ y = "set" ∧ (glB c "sorted" && glB c "set" && freeB c "sorted" && freeB c "set" && !isStar a) = true then some a else none
  | _ => none
def cCallN (c : Cc) (f : CE) (x : Str) (es : List Expr) : Option IE := match ssetB c x es with
  | some a => (f a).map .sset
  | none => if glB c x = true then (match fnOfName c x with
  | some g => (cL f es).map (.call g)
  | none => if freeB c x = true then (biOf x).bind fun b => if x = biN b then (match es with
      | [a] => (cL f [a]).bind fun l => match l with | [ia] => some (.blt b ia) | _ => none
      | [a, a2] => (cL f [a, a2]).bind fun l => match l with | [ia, ib] => some (.bltn b [ia, ib]) | _ => none
      | _ => none) else none else none) else none
def cMeth (c : Cc) (f : CE) (x m : Str) (es : List Expr) (l1 l2 : Nat) : Option IE := (slotOf c x).bind fun i => (miOf m).bind fun mi => if m = miN mi ∧ (l1 == l2) = true ∧ es.length < 28 then (cL f es).map (.met mi i) else none
def cFns (c : Cc) : List Expr → Option (List Nat)
  | [] => some []
  | .Name x _ :: es => if glB c x = true then (fnOfName c x).bind fun g => (cFns c es).map fun t => g :: t else none
  | _ :: _ => none
def cCals (c : Cc) (f : CE) (fes : List Expr) (i : Expr) (es : List Expr) : Option IE := if isSlice i = true then none else (cFns c fes).bind fun fs => if fs.length ≤ 16777216 then (f i).bind fun ii => (cL f es).map fun ies => .cals fs ii ies else none
def cDisp (f : CE) : List (Option Expr) → List Expr → Option (List IE)
  | [], [] => some []
  | some k :: ks, v :: vs => (f k).bind fun ik => (f v).bind fun iv => (cDisp f ks vs).map fun t => ik :: iv :: t
  | _, _ => none

section
variable {T : Tab} {EA : Nat → Addr} {X : Cx} {W : WX} {C : CallSem} {k : Nat} {c : Cc}
theorem dunder_ne {x : Str} (h : dunder x = false) : (x == ("__debug__" : Str)) = false ∧ (x == ("__classdict__" : Str)) = false ∧ x ≠ "__name__" := by
  unfold dunder at h
  simp only [Bool.or_eq_false_iff] at h
  exact ⟨h.1.1, h.1.2, fun z => by rw [z] at h; exact absurd h.2 (by decide)⟩
theorem vis_of {x : Str} (h : visB c x = true) : Vis c.sc x := by
  unfold visB at h
  split at h
  · rename_i e; exact .inl e
  · rename_i e; exact .inr (.inl e)
  · rename_i e; exact .inr (.inr e)
  · cases h
theorem loc_of {x : Str} (h : locB c x = true) : Loc c.sc x := by
  unfold locB at h
  split at h
  · rename_i e; exact .inl e
  · rename_i e; exact .inr e
  · cases h
theorem glB_of {x : Str} (h : glB c x = true) : c.sc.names.lookup x = some .globalImplicit ∧ dunder x = false := by
  unfold glB at h
  split at h
  · rename_i e; exact ⟨e, by simpa using h⟩
  · cases h
theorem slot_of {x : Str} {i : Nat} (h : slotOf c x = some i) : c.N[i]? = some x ∧ Vis c.sc x ∧ dunder x = false := by
  unfold slotOf at h
  rw [Option.bind_eq_some_iff] at h
  obtain ⟨j, _, h⟩ := h
  split at h
  · rename_i q; cases h; exact ⟨q.1, vis_of q.2.1, q.2.2⟩
  · cases h
theorem fn_of_name {x : Str} {i : Nat} (h : fnOfName c x = some i) : c.T.fns[i]? = some x := by
  unfold fnOfName at h
  rw [Option.bind_eq_some_iff] at h
  obtain ⟨j, _, h⟩ := h
  split at h
  · rename_i q; cases h; exact q
  · cases h
abbrev Ctx (EA : Nat → Addr) (c : Cc) (k : Nat) (C : CallSem) (X : Cx) (W : WX) : Prop := GX c.T EA X c.N c.sc c.fb k C ∧ Takes X W
/-- the meaning of a translation -/
def EOk (EA : Nat → Addr) (c : Cc) (C : CallSem) (k : Nat) (f : CE) : Prop := ∀ e ie, f e = some ie → ∀ X W, Ctx EA c k C X W → Snd X EA W C e ie
theorem noStar_of {e : Expr} (h : ¬ isStar e = true) : NoStar e := by
  intro rest env
  cases e <;> first | rfl | exact absurd rfl h
theorem plainIx_of {e : Expr} (h : isSlice e = false) : PlainIx e := by
  intro o i
  cases e <;> first | rfl | (cases h; done)
theorem cL_ok {f : CE} (hf : EOk EA c C k f) : ∀ {es : List Expr} {ies : List IE}, cL f es = some ies → ∀ X W, Ctx EA c k C X W → SndL X EA W C es ies
  | [], ies, h, X, W, g => by cases h; exact .nil
  | e :: es, ies, h, X, W, g => by
    unfold cL at h
    split at h
    · cases h
    · rename_i hs
      rw [Option.bind_eq_some_iff] at h
      obtain ⟨ie, h1, h⟩ := h
      rw [Option.map_eq_some_iff] at h
      obtain ⟨t, h2, rfl⟩ := h
      exact .cons (hf e ie h1 X W g) (noStar_of hs) (cL_ok hf h2 X W g)
theorem rep_str {K : PySem.W.Frag} {F : FS} {H : Hp} (x : Str) : Rep K F H (.str x.cps.toList) (.str x) := by
  show V.str x = .str ⟨x.cps.toList.toArray⟩
  rw [Array.toArray_toList]
theorem cConst_ok {v : Const} {j : Nat} {p : Pos} {ie : IE} (h : cConst v = some ie) : Snd X EA W C (.Constant v j p) ie := by
  cases v <;> first | (cases h; done) | skip
  · cases h; exact snd_cst pe_non (fun _ _ _ => rfl) (fun _ _ => rfl)
  · cases h; exact snd_cst pe_bl (fun _ _ _ => rfl) (fun _ _ => rfl)
  · cases h; exact snd_cst pe_int (fun _ _ _ => rfl) (fun _ _ => rfl)
  · cases h; exact snd_cst pe_str (fun _ _ _ => rep_str _) (fun _ _ => rfl)
theorem snd_gint {x : Str} {i : Int} {p : Pos} {t : PySem.Tok} (hg : Gl X x) (hm : X.mg x = some (.int i t)) (hd : (x == ("__debug__" : Str)) = false) : Snd X EA W C (.Name x p) (.gint x i) := by
  refine Snd.of (raw := fun ρ => .ok (false, .int i) ρ) (fun m ρ => by cases m <;> rfl) (fun _ z => nomatch z) (fun _ _ => rfl) (PE.imp' (pe_glob (pos := p) (v := .int i) hg hm ⟨_, rfl⟩ hd) fun σ H Q h => ?_)
  obtain ⟨F, ρ, r, h⟩ := h
  exact h.here r (.int i) rfl
theorem ctx_gl {x : Str} (g : Ctx EA c k C X W) (h : glB c x = true) : Gl X x := by
  show X.env.scope.names.lookup x = _
  rw [g.1.hs]
  exact (glB_of h).1
theorem cName_ok {x : Str} {p : Pos} {ie : IE} (h : cName c x = some ie) (g : Ctx EA c k C X W) : Snd X EA W C (.Name x p) ie := by
  unfold cName at h
  split at h
  · rename_i i e
    cases h
    obtain ⟨h1, h2, h3⟩ := slot_of e
    obtain ⟨d1, d2, _⟩ := dunder_ne h3
    exact snd_var (by rw [g.1.hN]; exact h1) (by rw [g.1.hs]; exact h2) d1 d2
  · split at h
    · rename_i e hg
      split at h
      · rename_i y ey
        split at h
        · rename_i exy
          cases h
          have hm := List.mem_of_find?_eq_some ey
          obtain ⟨t, ht⟩ := g.1.nums x y.2 (by rw [← exy]; exact hm)
          exact snd_gint (ctx_gl g hg) ht (dunder_ne (glB_of hg).2).1
        · cases h
      · cases h
    · cases h
theorem cTup_ok {f : CE} (hf : EOk EA c C k f) {es : List Expr} {j : Nat} {p : Pos} {ie : IE} (h : cTup f es = some ie) (g : Ctx EA c k C X W) : Snd X EA W C (.Tuple es j p) ie := by
  unfold cTup at h
  split at h
  · rw [Option.bind_eq_some_iff] at h
    obtain ⟨ia, h1, h⟩ := h
    rw [Option.map_eq_some_iff] at h
    obtain ⟨ies, h2, rfl⟩ := h
    exact snd_tupS (hf _ _ h1 X W g) (cL_ok hf h2 X W g)
  · rw [Option.map_eq_some_iff] at h
    obtain ⟨ies, h2, rfl⟩ := h
    exact snd_tup (cL_ok hf h2 X W g)
theorem bop_of {op : Operator} {o : BOp} (h : bopOf op = some o) : op = astB o := by cases op <;> first | (cases h; rfl) | cases h
theorem cop_of {op : CmpOp} {o : COp} (h : copOf op = some o) : op = astC o := by cases op <;> first | (cases h; rfl) | cases h
theorem ctx_u (g : Ctx EA c k C X W) : X.A.units + 200 < cLine := g.1.units
theorem cBool_ok {f : CE} (hf : EOk EA c C k f) {op : BoolOp} {p : Pos} (g : Ctx EA c k C X W) : ∀ {es : List Expr} {ie : IE}, cBool op f es = some ie → SndB X EA W C op es p ie ∧ ∀ i, ie ≠ .var i
  | [], ie, h => by cases h
  | [_], ie, h => by cases h
  | [a, b], ie, h => by
    unfold cBool at h
    rw [Option.bind_eq_some_iff] at h
    obtain ⟨ia, h1, h⟩ := h
    rw [Option.map_eq_some_iff] at h
    obtain ⟨ib, h2, rfl⟩ := h
    have sb := sndB_one (op := op) (pos := p) (hf b ib h2 X W g)
    cases op with
    | And => exact ⟨sndB_and (hf a ia h1 X W g) sb, fun i z => nomatch z⟩
    | Or => exact ⟨sndB_or (hf a ia h1 X W g) sb, fun i z => nomatch z⟩
  | a :: b :: d :: r, ie, h => by
    unfold cBool at h
    rw [Option.bind_eq_some_iff] at h
    obtain ⟨ia, h1, h⟩ := h
    rw [Option.map_eq_some_iff] at h
    obtain ⟨ib, h2, rfl⟩ := h
    have sb := (cBool_ok hf (p := p) g h2).1
    cases op with
    | And => exact ⟨sndB_and (hf a ia h1 X W g) sb, fun i z => nomatch z⟩
    | Or => exact ⟨sndB_or (hf a ia h1 X W g) sb, fun i z => nomatch z⟩
theorem isNone_of {e : Expr} (h : isNone e = true) : ∃ j p, e = .Constant .none j p := by
  unfold isNone at h
  split at h
  · exact ⟨_, _, rfl⟩
  · cases h
theorem cCmp1_ok {f : CE} (hf : EOk EA c C k f) {a b : Expr} {op : CmpOp} {p : Pos} {ie : IE} (h : cCmp1 f a op b = some ie) (g : Ctx EA c k C X W) : Snd X EA W C (.Compare a [op] [b] p) ie := by
  have hu := ctx_u g
  unfold cCmp1 at h
  split at h
  · split at h
    · rename_i q
      obtain ⟨j, p2, rfl⟩ := isNone_of q
      rw [Option.map_eq_some_iff] at h
      obtain ⟨ia, h1, rfl⟩ := h
      exact snd_isN (neg := false) (hf _ _ h1 X W g)
    · cases h
  · split at h
    · rename_i q
      obtain ⟨j, p2, rfl⟩ := isNone_of q
      rw [Option.map_eq_some_iff] at h
      obtain ⟨ia, h1, rfl⟩ := h
      exact snd_isN (neg := true) (hf _ _ h1 X W g)
    · cases h
  · rw [Option.bind_eq_some_iff] at h
    obtain ⟨o, h1, h⟩ := h
    split at h
    · rename_i hm
      rw [Option.bind_eq_some_iff] at h
      obtain ⟨ia, h2, h⟩ := h
      rw [Option.map_eq_some_iff] at h
      obtain ⟨ib, h3, rfl⟩ := h
      rw [cop_of h1]
      exact snd_cmp (by omega) (hf _ _ h2 X W g) (hf _ _ h3 X W g) hm
    · cases h
theorem cCmp_ok {f : CE} (hf : EOk EA c C k f) {a : Expr} {ops : List CmpOp} {bs : List Expr} {p : Pos} {ie : IE} (h : cCmp f a ops bs = some ie) (g : Ctx EA c k C X W) : Snd X EA W C (.Compare a ops bs p) ie := by
  have hu := ctx_u g
  unfold cCmp at h
  split at h
  · exact cCmp1_ok hf h g
  · rw [Option.bind_eq_some_iff] at h
    obtain ⟨p1, h1, h⟩ := h
    rw [Option.bind_eq_some_iff] at h
    obtain ⟨p2, h2, h⟩ := h
    split at h
    · rename_i hm
      rw [Option.bind_eq_some_iff] at h
      obtain ⟨ia, h3, h⟩ := h
      rw [Option.bind_eq_some_iff] at h
      obtain ⟨ib, h4, h⟩ := h
      rw [Option.map_eq_some_iff] at h
      obtain ⟨ic, h5, rfl⟩ := h
      rw [cop_of h1, cop_of h2]
      exact snd_chain (by omega) (hf _ _ h3 X W g) (hf _ _ h4 X W g) (hf _ _ h5 X W g) hm
    · cases h
  · cases h
theorem cO_ok {f : CE} (hf : EOk EA c C k f) {o : Option Expr} {ie : IE} (h : cO f o = some ie) (g : Ctx EA c k C X W) : PO X o (tSb X.K EA W C ie) := by
  cases o with
  | none => cases h; exact po_n
  | some e =>
    unfold cO at h
    rw [Option.bind_eq_some_iff] at h
    obtain ⟨ia, h1, h⟩ := h
    split at h
    · cases h
    · rename_i hn
      cases h
      refine po_s (hf _ _ h1 X W g) fun r ρ => ?_
      unfold sliceB
      split
      · exact absurd rfl hn
      · rfl
theorem cSub_ok {f : CE} (hf : EOk EA c C k f) {a i : Expr} {p : Pos} {ie : IE} (h : cSub f a i = some ie) (g : Ctx EA c k C X W) : Snd X EA W C (.Subscript a i p) ie := by
  have hu := ctx_u g
  unfold cSub at h
  split at h
  · rename_i lo hi st p2
    split at h
    · rename_i hst
      cases st with
      | some _ => cases hst
      | none =>
        rw [Option.bind_eq_some_iff] at h
        obtain ⟨ia, h1, h⟩ := h
        rw [Option.bind_eq_some_iff] at h
        obtain ⟨il, h2, h⟩ := h
        rw [Option.map_eq_some_iff] at h
        obtain ⟨ih, h3, rfl⟩ := h
        exact snd_slc (hf _ _ h1 X W g) (cO_ok hf h2 g) (cO_ok hf h3 g)
    · cases h
  · rename_i hns
    rw [Option.bind_eq_some_iff] at h
    obtain ⟨ia, h1, h⟩ := h
    rw [Option.map_eq_some_iff] at h
    obtain ⟨ii, h2, rfl⟩ := h
    refine snd_idx (by omega) (hf _ _ h1 X W g) (hf _ _ h2 X W g) (plainIx_of ?_)
    cases i <;> first | rfl | exact absurd rfl (hns _ _ _ _)
end
end Cw
set_option Elab.async false
set_option linter.all false
set_option maxRecDepth 100000
set_option maxHeartbeats 4000000
set_option autoImplicit false
/-! Cw, part Y: translation of calls, comprehensions, targets -/
namespace Cw
open PySem L2

section
variable {T : Tab} {EA : Nat → Addr} {X : Cx} {W : WX} {C : CallSem} {k : Nat} {c : Cc}
theorem cFns_ok (g : Ctx EA c k C X W) : ∀ {es : List Expr} {fs : List Nat}, cFns c es = some fs → FnsL c.T X es fs
  | [], fs, h => by cases h; exact .nil
  | e :: es, fs, h => by
    cases e <;> first | (cases h; done) | skip
    rename_i x p
    unfold cFns at h
    split at h
    · rename_i hg
      rw [Option.bind_eq_some_iff] at h
      obtain ⟨i, h1, h⟩ := h
      rw [Option.map_eq_some_iff] at h
      obtain ⟨t, h2, rfl⟩ := h
      exact .cons (fn_of_name h1) (ctx_gl g hg) (dunder_ne (glB_of hg).2).1 (cFns_ok g h2)
    · cases h
theorem bi_boot (b : Bi) : bootBuiltins (biN b) = some (biV b) := by cases b <;> rfl
theorem cCallN_ok {f : CE} (hf : EOk EA c C k f) {x : Str} {es : List Expr} {p pos : Pos} {ie : IE} (h : cCallN c f x es = some ie) (g : Ctx EA c k C X W) : Snd X EA W C (.Call (.Name x p) es [] pos) ie := by
  have hu := ctx_u g
  unfold cCallN at h
  split at h
  · rename_i a0 e0
    rw [Option.map_eq_some_iff] at h
    obtain ⟨ia, h1, rfl⟩ := h
    unfold ssetB at e0
    split at e0
    · split at e0
      · rename_i q
        obtain ⟨q1, q2, q3⟩ := q
        subst q1 q2
        cases e0
        simp only [Bool.and_eq_true] at q3
        obtain ⟨⟨⟨⟨b1, b2⟩, b3⟩, b4⟩, b5⟩ := q3
        exact snd_sset g.1.calm (ctx_gl g b1) (g.1.free _ (by simpa [freeB] using b3)) (ctx_gl g b2) (g.1.free _ (by simpa [freeB] using b4)) (hf _ _ h1 X W g) (noStar_of (by simpa using b5))
      · cases e0
    · cases e0
  split at h
  · rename_i hg
    have hgl := ctx_gl g hg
    obtain ⟨d1, _, d3⟩ := dunder_ne (glB_of hg).2
    split at h
    · rename_i gi e
      rw [Option.map_eq_some_iff] at h
      obtain ⟨ies, h1, rfl⟩ := h
      exact snd_call g.1 g.2 (fn_of_name e) hgl d1 (cL_ok hf h1 X W g)
    · split at h
      · rename_i hfree
        have hm : X.mg x = none := g.1.free x (by simpa [freeB] using hfree)
        rw [Option.bind_eq_some_iff] at h
        obtain ⟨b, h1, h⟩ := h
        split at h
        · rename_i ex
          split at h
          · rename_i a
            rw [Option.bind_eq_some_iff] at h
            obtain ⟨l, h2, h⟩ := h
            have hl := cL_ok hf h2 X W g
            split at h
            · rename_i ia
              cases h
              cases hl with
              | cons s n t => exact snd_blt ex g.1.calm g.1.guards hu hgl hm (by rw [ex]; exact bi_boot b) d3 d1 s n
            · cases h
          · rename_i a a2
            rw [Option.bind_eq_some_iff] at h
            obtain ⟨l, h2, h⟩ := h
            have hl := cL_ok hf h2 X W g
            split at h
            · rename_i ia ib
              cases h
              cases hl with
              | cons s n t =>
                cases t with
                | cons s2 n2 t2 => exact snd_bltn ex g.1.calm g.1.guards hu hgl hm (by rw [ex]; exact bi_boot b) d3 d1 s n s2 n2
            · cases h
          · cases h
        · cases h
      · cases h
  · cases h
theorem cMeth_ok {f : CE} (hf : EOk EA c C k f) {x m : Str} {es : List Expr} {p apos pos : Pos} {ie : IE} (h : cMeth c f x m es apos.endLine pos.line = some ie) (g : Ctx EA c k C X W) : Snd X EA W C (.Call (.Attribute (.Name x p) m apos) es [] pos) ie := by
  unfold cMeth at h
  rw [Option.bind_eq_some_iff] at h
  obtain ⟨i, h1, h⟩ := h
  rw [Option.bind_eq_some_iff] at h
  obtain ⟨mi, h2, h⟩ := h
  split at h
  · rename_i q
    rw [Option.map_eq_some_iff] at h
    obtain ⟨ies, h3, rfl⟩ := h
    obtain ⟨e1, e2, e3⟩ := slot_of h1
    obtain ⟨d1, d2, _⟩ := dunder_ne e3
    rw [q.1]
    exact snd_met (by rw [g.1.hN]; exact e1) (by rw [g.1.hs]; exact e2) d1 d2 (cL_ok hf h3 X W g) rfl q.2.1 q.2.2
  · cases h
theorem cCals_ok {f : CE} (hf : EOk EA c C k f) {fes es : List Expr} {i : Expr} {lp sp pos : Pos} {ie : IE} (h : cCals c f fes i es = some ie) (g : Ctx EA c k C X W) : Snd X EA W C (.Call (.Subscript (.List fes lp) i sp) es [] pos) ie := by
  unfold cCals at h
  split at h
  · cases h
  · rename_i hs
    rw [Option.bind_eq_some_iff] at h
    obtain ⟨fs, h1, h⟩ := h
    split at h
    · rename_i hl
      rw [Option.bind_eq_some_iff] at h
      obtain ⟨ii, h2, h⟩ := h
      rw [Option.map_eq_some_iff] at h
      obtain ⟨ies, h3, rfl⟩ := h
      exact snd_cals g.1 g.2 (cFns_ok g h1) (hf _ _ h2 X W g) (plainIx_of (by simpa using hs)) (cL_ok hf h3 X W g) hl rfl
    · cases h
theorem cDisp_ok {f : CE} (hf : EOk EA c C k f) (g : Ctx EA c k C X W) : ∀ {ks : List (Option Expr)} {vs : List Expr} {ies : List IE}, cDisp f ks vs = some ies → SndD X EA W C ks vs ies
  | [], [], ies, h => by cases h; exact .nil
  | [], _ :: _, ies, h => by cases h
  | none :: _, [], ies, h => by cases h
  | none :: _, _ :: _, ies, h => by cases h
  | some _ :: _, [], ies, h => by cases h
  | some e :: ks, v :: vs, ies, h => by
    unfold cDisp at h
    rw [Option.bind_eq_some_iff] at h
    obtain ⟨ik, h1, h⟩ := h
    rw [Option.bind_eq_some_iff] at h
    obtain ⟨iv, h2, h⟩ := h
    rw [Option.map_eq_some_iff] at h
    obtain ⟨t, h3, rfl⟩ := h
    exact .cons (hf _ _ h1 X W g) (hf _ _ h2 X W g) (cDisp_ok hf g h3)

/-! ### targets -/
def storeB (c : Cc) (x : Str) : Bool := locB c x && (c.fb x || (match c.sc.names.lookup x with | some .local => true | _ => false)) && decide (c.N.Nodup)
mutual
def cT (c : Cc) : Nat → Expr → Option Tg
  | 0, _ => none
  | n + 1, .Name x _ => (slotOf c x).bind fun i => if storeB c x = true then some (.name i) else none
  | n + 1, .Tuple es _ _ => (cTs c n es).map .tup
  | _ + 1, _ => none
def cTs (c : Cc) : Nat → List Expr → Option (List Tg)
  | 0, _ => none
  | _ + 1, [] => some []
  | n + 1, e :: es => if isStar e = true then none else (cT c n e).bind fun t => (cTs c n es).map fun ts => t :: ts
end
theorem each_star {e : Expr} {es : List Expr} {env : PySem.Env} (h : ¬ isStar e = true) : assignEach (e :: es) env = (false, assign e env) :: assignEach es env := by
  cases e <;> first | rfl | exact absurd rfl h
def noStars : List Expr → Bool
  | [] => true
  | e :: es => !isStar e && noStars es
theorem each_len {env : PySem.Env} : ∀ es : List Expr, noStars es = true → (assignEach es env).length = es.length ∧ (assignEach es env).findIdx? (·.1) = none
  | [], _ => ⟨rfl, rfl⟩
  | e :: es, h => by
    unfold noStars at h
    rw [Bool.and_eq_true] at h
    obtain ⟨h1, h2⟩ := each_len (env := env) es h.2
    rw [each_star (by simpa using h.1)]
    refine ⟨by rw [List.length_cons, List.length_cons, h1], ?_⟩
    rw [List.findIdx?_cons, h2]; rfl
theorem storeB_of {x : Str} (h : storeB c x = true) : Loc c.sc x ∧ (c.fb x = true ∨ c.sc.names.lookup x = some .local) ∧ c.N.Nodup := by
  unfold storeB at h
  rw [Bool.and_eq_true, Bool.and_eq_true, Bool.or_eq_true] at h
  refine ⟨loc_of h.1.1, h.1.2.imp_right fun q => ?_, of_decide_eq_true h.2⟩
  split at q
  · assumption
  · cases q
mutual
theorem cT_ok (g : Ctx EA c k C X W) : ∀ {n : Nat} {e : Expr} {t : Tg}, cT c n e = some t → PG X e (gT X.K t)
  | 0, _, _, h => by unfold cT at h; cases h
  | n + 1, e, t, h => by
    cases e <;> first | (unfold cT at h; cases h; done) | skip
    · rename_i x p
      unfold cT at h
      rw [Option.bind_eq_some_iff] at h
      obtain ⟨i, h1, h⟩ := h
      split at h
      · rename_i hs
        cases h
        obtain ⟨e1, _, _⟩ := slot_of h1
        obtain ⟨s1, s2, s3⟩ := storeB_of hs
        exact pgT_name (by rw [g.1.hN]; exact s3) (by rw [g.1.hN]; exact e1) (by rw [g.1.hs]; exact s1) (by rw [g.1.hs, g.1.hf]; exact s2)
      · cases h
    · rename_i es j p
      unfold cT at h
      rw [Option.map_eq_some_iff] at h
      obtain ⟨ts, h1, rfl⟩ := h
      obtain ⟨q1, q2, q3⟩ := cTs_ok g h1
      obtain ⟨q4, q5⟩ := each_len (env := X.env) es q3
      exact pgT_tup g.1.calm q1 q2 q4 q5
theorem cTs_ok (g : Ctx EA c k C X W) : ∀ {n : Nat} {es : List Expr} {ts : List Tg}, cTs c n es = some ts → PGs X es (gTs X.K ts) ∧ es.length = ts.length ∧ noStars es = true
  | 0, _, _, h => by unfold cTs at h; cases h
  | n + 1, [], ts, h => by unfold cTs at h; cases h; exact ⟨pgsT_nil, rfl, rfl⟩
  | n + 1, e :: es, ts, h => by
    unfold cTs at h
    split at h
    · cases h
    · rename_i hs
      rw [Option.bind_eq_some_iff] at h
      obtain ⟨t, h1, h⟩ := h
      rw [Option.map_eq_some_iff] at h
      obtain ⟨ts', h2, rfl⟩ := h
      obtain ⟨q1, q2, q3⟩ := cTs_ok g h2
      refine ⟨pgsT_cons (cT_ok g h1) q1 (by rw [each_star hs]; rfl), by rw [List.length_cons, List.length_cons, q2], ?_⟩
      unfold noStars
      rw [q3]; simp [hs]
end

/-! ### what is walked -/
def isTupE : Expr → Bool
  | .Tuple _ _ _ => true
  | _ => false
def cIt (c : Cc) (f : CE) (tg : Expr) : Expr → Option (Ik × List IE)
  | .Call (.Name x _) es [] _ => if x = "range" ∧ glB c x = true ∧ freeB c x = true then (match es with
      | [a] => (cL f [a]).bind fun l => match l with | [ia] => some (.range1, [ia]) | _ => none
      | [a, b] => (cL f [a, b]).bind fun l => match l with | [ia, ib] => some (.range2, [ia, ib]) | _ => none
      | _ => none)
    else if x = "zip" ∧ glB c x = true ∧ freeB c x = true ∧ isTupE tg = true then (match es with
      | [a, b] => (cL f [a, b]).bind fun l => match l with | [ia, ib] => some (.zip, [ia, ib]) | _ => none
      | _ => none)
    else if x = "enumerate" ∧ glB c x = true ∧ freeB c x = true ∧ isTupE tg = true then (match es with
      | [a] => (cL f [a]).bind fun l => match l with | [ia] => some (.enum, [ia]) | _ => none
      | _ => none)
    else (cCallN c f x es).map fun ie => (.seq, [ie])
  | e => if isSet e = true then none else (f e).map fun ie => (.seq, [ie])
theorem fold_of {e : Expr} {env : PySem.Env} (h : ¬ isSet e = true) (x : Value) : foldedSetIterable e env x = pure x := by
  cases e <;> first | rfl | exact absurd rfl h
theorem isTupE_of {e : Expr} (h : isTupE e = true) : ∃ es j p, e = .Tuple es j p := by
  unfold isTupE at h
  split at h
  · exact ⟨_, _, _, rfl⟩
  · cases h
theorem cIt_ok {f : CE} (hf : EOk EA c C k f) {tg it : Expr} {ik : Ik} {its : List IE} (h : cIt c f tg it = some (ik, its)) (g : Ctx EA c k C X W) : PI X tg it (iR X.K EA W C ik its) ∧ (∀ env x, foldedSetIterable it env x = pure x) ∧ ik ≠ .lend := by
  have hfree : ∀ {x : Str}, freeB c x = true → X.mg x = none := fun {x} q => g.1.free x (by simpa [freeB] using q)
  unfold cIt at h
  split at h
  · rename_i x p es pos
    split at h
    · rename_i q
      obtain ⟨rfl, q2, q3⟩ := q
      split at h
      · rw [Option.bind_eq_some_iff] at h
        obtain ⟨l, h2, h⟩ := h
        have hl := cL_ok hf h2 X W g
        split at h
        · cases h
          cases hl with
          | cons s n t => exact ⟨pi_r1 (ctx_gl g q2) (hfree q3) s n, fun _ _ => rfl, by decide⟩
        · cases h
      · rw [Option.bind_eq_some_iff] at h
        obtain ⟨l, h2, h⟩ := h
        have hl := cL_ok hf h2 X W g
        split at h
        · cases h
          cases hl with
          | cons s n t =>
            cases t with
            | cons s2 n2 t2 => exact ⟨pi_r2 (ctx_gl g q2) (hfree q3) s n s2 n2, fun _ _ => rfl, by decide⟩
        · cases h
      · cases h
    · split at h
      · rename_i q
        obtain ⟨rfl, q2, q3, q4⟩ := q
        obtain ⟨elts, j, tp, rfl⟩ := isTupE_of q4
        split at h
        · rw [Option.bind_eq_some_iff] at h
          obtain ⟨l, h2, h⟩ := h
          have hl := cL_ok hf h2 X W g
          split at h
          · cases h
            cases hl with
            | cons s n t =>
              cases t with
              | cons s2 n2 t2 => exact ⟨pi_z (ctx_gl g q2) (hfree q3) s n s2 n2, fun _ _ => rfl, by decide⟩
          · cases h
        · cases h
      · split at h
        · rename_i q
          obtain ⟨rfl, q2, q3, q4⟩ := q
          obtain ⟨elts, j, tp, rfl⟩ := isTupE_of q4
          split at h
          · rw [Option.bind_eq_some_iff] at h
            obtain ⟨l, h2, h⟩ := h
            have hl := cL_ok hf h2 X W g
            split at h
            · cases h
              cases hl with
              | cons s n t => exact ⟨pi_e (ctx_gl g q2) (hfree q3) s n, fun _ _ => rfl, by decide⟩
            · cases h
          · cases h
        · rw [Option.map_eq_some_iff] at h
          obtain ⟨ie, h1, h⟩ := h
          cases h
          exact ⟨pi_s (cCallN_ok hf h1 g), fun _ _ => rfl, by decide⟩
  · split at h
    · cases h
    · rename_i hs
      rw [Option.map_eq_some_iff] at h
      obtain ⟨ie, h1, h⟩ := h
      cases h
      exact ⟨pi_s (hf _ _ h1 X W g), fun env x => fold_of hs x, by decide⟩
end
end Cw
set_option Elab.async false
set_option linter.all false
set_option maxRecDepth 100000
set_option maxHeartbeats 4000000
set_option autoImplicit false
/-! Cw, part Z: translation of expressions and statements -/
namespace Cw
open PySem L2

def relS (sc scope : Scope) : Scope :=
  { scope with names := scope.names.map fun (n, k) => if (k == .free && sc.kind == .function && sc.names.lookup n == some .cell) then (n, .cell) else (n, k) }
/-- within a comprehension -/
def blkCc (c : Cc) (scope : Scope) : Cc := { c with sc := relS c.sc scope, fb := fun x => scope.names.lookup x == some .cell }
def ownOf (c : Cc) (scope : Scope) : List (Str × Nat) := scope.names.filterMap fun y => match y.2 with
  | .local => (c.N.findIdx? (· == y.1)).map fun i => (y.1, i)
  | .cell => (c.N.findIdx? (· == y.1)).map fun i => (y.1, i)
  | _ => none
def subB (a b : List Nat) : Bool := a.all fun i => b.contains i
def cCond (f : CE) : List Expr → Option (List IE)
  | [] => some []
  | [e] => (f e).map fun ie => [ie]
  | _ => none
structure Lc1 where
  own : List (Str × Nat)
  tg : Tg
  ik : Ik
  its : List IE
  conds : List IE
  elt : IE
def cLc1 (c : Cc) (n : Nat) (g : Cc → CE) (elt tg it : Expr) (ifs : List Expr) (scope : Scope) : Option Lc1 :=
  let own := ownOf c scope
  let c' := blkCc c scope
  if blkC c.N c.sc scope own = true ∧ decide (c.N.Nodup) = true then (cIt c (g c) tg it).bind fun it' => (cT c' n tg).bind fun t => if subB t.ids (own.map (·.2)) = true then (cCond (g c') ifs).bind fun cs => (g c' elt).map fun e => ⟨own, t, it'.1, it'.2, cs, e⟩ else none else none
structure Lc2 where
  own : List (Str × Nat)
  vs1 : List Nat
  tg : Tg
  ik : Ik
  its : List IE
  tg2 : Tg
  ik2 : Ik
  its2 : List IE
  conds2 : List IE
  elt : IE
def cLc2 (c : Cc) (n : Nat) (g : Cc → CE) (elt tg it tg2 it2 : Expr) (ifs2 : List Expr) (scope : Scope) : Option Lc2 :=
  let own := ownOf c scope
  let c' := blkCc c scope
  if blkC c.N c.sc scope own = true ∧ decide (c.N.Nodup) = true then (cIt c (g c) tg it).bind fun it' => (cT c' n tg).bind fun t => (cIt c' (g c') tg2 it2).bind fun it2' => (cT c' n tg2).bind fun t2 =>
    if subB t.ids (own.map (·.2)) = true ∧ subB t2.ids (own.map (·.2)) = true then (cCond (g c') ifs2).bind fun cs => (g c' elt).map fun e => ⟨own, t2.ids, t, it'.1, it'.2, t2, it2'.1, it2'.2, cs, e⟩ else none else none
def cComp (c : Cc) (n : Nat) (g : Cc → CE) (elt : Expr) (gens : List Comprehension) (scope : Scope) : Option IE := match gens with
  | [⟨tg, it, ifs, a⟩] => if a = 0 then (cLc1 c n g elt tg it ifs scope).map fun r => .lcp (r.own.map (·.2)) r.tg r.ik r.its r.conds r.elt else none
  | [⟨tg, it, ifs, a⟩, ⟨tg2, it2, ifs2, a2⟩] => if a = 0 ∧ a2 = 0 ∧ ifs.isEmpty = true then (cLc2 c n g elt tg it tg2 it2 ifs2 scope).map fun r => .lcp2 (r.own.map (·.2)) r.vs1 r.tg r.ik r.its r.tg2 r.ik2 r.its2 r.conds2 r.elt else none
  | _ => none
def cCall (c : Cc) (f : CE) (fe : Expr) (es : List Expr) (kws : List Keyword) (pos : Pos) : Option IE := if kws.isEmpty = true then (match fe with
  | .Name x _ => cCallN c f x es
  | .Attribute (.Name x _) m apos => cMeth c f x m es apos.endLine pos.line
  | .Subscript (.List fes _) i _ => cCals c f fes i es
  | _ => none) else none
def cDict (c : Cc) (f : CE) (ks : List (Option Expr)) (vs : List Expr) : Option IE := if ks.isEmpty = true ∧ vs.isEmpty = true then (if c.dk = 0 then some (.dsp 0 []) else if c.dk = 1 then some (.dsp 1 []) else none) else if ks.length ≤ 15 ∧ ks.isEmpty = false then (cDisp f ks vs).map (.dsp 0) else none
def cE : Nat → Cc → CE
  | 0, _, _ => none
  | n + 1, c, e => match e with
    | .Constant v _ _ => cConst v
    | .Name x _ => cName c x
    | .Tuple es _ _ => cTup (cE n c) es
    | .List es _ => (cL (cE n c) es).map .lst
    | .BinOp a op b _ => (bopOf op).bind fun o => (cE n c a).bind fun ia => (cE n c b).map fun ib => .bin o ia ib
    | .UnaryOp op a _ => (match op with
      | .Not => (cE n c a).map .not
      | .USub => (cE n c a).map .neg
      | _ => none)
    | .BoolOp op es _ => cBool op (cE n c) es
    | .IfExp t a b _ => (cE n c t).bind fun it => (cE n c a).bind fun ia => (cE n c b).map fun ib => .ite it ia ib
    | .Compare a ops bs _ => cCmp (cE n c) a ops bs
    | .Subscript a i _ => cSub (cE n c) a i
    | .Call fe es kws pos => cCall c (cE n c) fe es kws pos
    | .ListComp elt gens scope _ => cComp c n (cE n) elt gens scope
    | .Dict ks vs _ => cDict c (cE n c) ks vs
    | _ => none

section
variable {T : Tab} {EA : Nat → Addr} {X : Cx} {W : WX} {C : CallSem} {k : Nat} {c : Cc}
theorem subB_of {a b : List Nat} (h : subB a b = true) : ∀ i ∈ a, i ∈ b := fun i hi => by
  unfold subB at h
  rw [List.all_eq_true] at h
  exact List.contains_iff_mem.mp (h i hi)
theorem ctx_blk {scope : Scope} (g : Ctx EA c k C X W) (s : Shared) (H : Hp) (Cc' : Addr) (cl : List (Str × Addr)) (fp : List Addr) : Ctx EA (blkCc c scope) k C (X.blk s H scope (compEnvC scope cl Cc' X.env) fp) WF := by
  refine ⟨⟨g.1.hN, g.1.nd, ?_, fun x => rfl, g.1.calm, g.1.guards, g.1.room, g.1.fns, g.1.free, g.1.nums⟩, ?_⟩
  · show relabel scope X.env = relS c.sc scope
    rw [← g.1.hs]; rfl
  · rintro u s' ⟨a, B, sI, pins, σ, H', cls, d, e, I, nb, up, sky, na, os, ag, w⟩
    exact w.elim
theorem cCond_ok {f : CE} (hf : EOk EA c C k f) {es : List Expr} {ies : List IE} (h : cCond f es = some ies) (g : Ctx EA c k C X W) : PTs X es (tCs X.K EA W C ies) := by
  unfold cCond at h
  split at h
  · cases h; exact cs_nil
  · rw [Option.map_eq_some_iff] at h
    obtain ⟨ie, h1, rfl⟩ := h
    exact cs_one (hf _ _ h1 X W g)
  · cases h
/-- what the translation of a comprehension says -/
structure Lc1Ok (EA : Nat → Addr) (X : Cx) (W : WX) (C : CallSem) (elt tg it : Expr) (ifs : List Expr) (scope : Scope) (r : Lc1) : Prop where
  calm : X.calm = true
  nd : X.N.Nodup
  hi : PI X tg it (iR X.K EA W C r.ik r.its)
  ok : BlkOk X.N X.env.scope scope r.own
  ids : ∀ i ∈ r.tg.ids, i ∈ r.own.map (·.2)
  hg : ∀ (s : Shared) (H : Hp) (Cc : Addr) (cl : List (Str × Addr)) (fp : List Addr), PG (X.blk s H scope (compEnvC scope cl Cc X.env) fp) tg (gT X.K r.tg)
  ht : ∀ (s : Shared) (H : Hp) (Cc : Addr) (cl : List (Str × Addr)) (fp : List Addr), PTs (X.blk s H scope (compEnvC scope cl Cc X.env) fp) ifs (tCs X.K EA WF C r.conds)
  he : ∀ (s : Shared) (H : Hp) (Cc : Addr) (cl : List (Str × Addr)) (fp : List Addr), Snd (X.blk s H scope (compEnvC scope cl Cc X.env) fp) EA WF C elt r.elt
  hs : ∀ env x, foldedSetIterable it env x = pure x
theorem cLc1_ok {n : Nat} {gg : Cc → CE} (hf : ∀ c, EOk EA c C k (gg c)) {elt tg it : Expr} {ifs : List Expr} {scope : Scope} {r : Lc1} (h : cLc1 c n gg elt tg it ifs scope = some r) (g : Ctx EA c k C X W) : Lc1Ok EA X W C elt tg it ifs scope r := by
  unfold cLc1 at h
  dsimp only at h
  split at h
  · rename_i q
    rw [Option.bind_eq_some_iff] at h
    obtain ⟨⟨ik, its⟩, h1, h⟩ := h
    rw [Option.bind_eq_some_iff] at h
    obtain ⟨t, h2, h⟩ := h
    split at h
    · rename_i hs
      rw [Option.bind_eq_some_iff] at h
      obtain ⟨cs, h3, h⟩ := h
      rw [Option.map_eq_some_iff] at h
      obtain ⟨e, h4, rfl⟩ := h
      obtain ⟨q1, q2, _⟩ := cIt_ok (hf c) h1 g
      exact ⟨g.1.calm, by rw [g.1.hN]; exact g.1.nd, q1, by rw [g.1.hN, g.1.hs]; exact blkOk_by q.1, subB_of hs, fun s H Cc' cl fp => cT_ok (ctx_blk g s H Cc' cl fp) h2, fun s H Cc' cl fp => cCond_ok (hf _) h3 (ctx_blk g s H Cc' cl fp),
        fun s H Cc' cl fp => hf _ _ _ h4 _ _ (ctx_blk g s H Cc' cl fp), q2⟩
    · cases h
  · cases h
theorem cIt_shape {f : CE} {tg it : Expr} {ik : Ik} {its : List IE} (h : cIt c f tg it = some (ik, its)) : (∀ env x, foldedSetIterable it env x = pure x) ∧ ik ≠ .lend := by
  have one : ∀ {l : Option (List IE)} {kk : Ik}, kk ≠ .lend → (l.bind fun l => match l with | [ia] => some (kk, [ia]) | _ => none) = some (ik, its) → ik ≠ .lend := fun {l kk} hk h => by
    rw [Option.bind_eq_some_iff] at h
    obtain ⟨l, _, h⟩ := h
    split at h
    · cases h; exact hk
    · cases h
  have two : ∀ {l : Option (List IE)} {kk : Ik}, kk ≠ .lend → (l.bind fun l => match l with | [ia, ib] => some (kk, [ia, ib]) | _ => none) = some (ik, its) → ik ≠ .lend := fun {l kk} hk h => by
    rw [Option.bind_eq_some_iff] at h
    obtain ⟨l, _, h⟩ := h
    split at h
    · cases h; exact hk
    · cases h
  unfold cIt at h
  split at h
  · refine ⟨fun _ _ => rfl, ?_⟩
    split at h
    · split at h
      · exact one (by decide) h
      · exact two (by decide) h
      · cases h
    · split at h
      · split at h
        · exact two (by decide) h
        · cases h
      · split at h
        · split at h
          · exact one (by decide) h
          · cases h
        · rw [Option.map_eq_some_iff] at h
          obtain ⟨ie, _, h⟩ := h
          cases h; decide
  · split at h
    · cases h
    · rename_i hs
      rw [Option.map_eq_some_iff] at h
      obtain ⟨ie, h1, h⟩ := h
      cases h
      exact ⟨fun env x => fold_of hs x, by decide⟩
structure Lc2Ok (EA : Nat → Addr) (X : Cx) (W : WX) (C : CallSem) (elt tg it tg2 it2 : Expr) (ifs2 : List Expr) (scope : Scope) (r : Lc2) : Prop where
  calm : X.calm = true
  nd : X.N.Nodup
  hi : PI X tg it (iR X.K EA W C r.ik r.its)
  ok : BlkOk X.N X.env.scope scope r.own
  ids : ∀ i ∈ r.tg.ids, i ∈ r.own.map (·.2)
  ids2 : ∀ i ∈ r.tg2.ids, i ∈ r.vs1
  vs1 : ∀ i ∈ r.vs1, i ∈ r.own.map (·.2)
  nl : r.ik2 ≠ .lend
  hg : ∀ (s : Shared) (H : Hp) (Cc : Addr) (cl : List (Str × Addr)) (fp : List Addr), PG (X.blk s H scope (compEnvC scope cl Cc X.env) fp) tg (gT X.K r.tg)
  hi2 : ∀ (s : Shared) (H : Hp) (Cc : Addr) (cl : List (Str × Addr)) (fp : List Addr), PI (X.blk s H scope (compEnvC scope cl Cc X.env) fp) tg2 it2 (iR X.K EA WF C r.ik2 r.its2)
  hg2 : ∀ (s : Shared) (H : Hp) (Cc : Addr) (cl : List (Str × Addr)) (fp : List Addr), PG (X.blk s H scope (compEnvC scope cl Cc X.env) fp) tg2 (gT X.K r.tg2)
  ht2 : ∀ (s : Shared) (H : Hp) (Cc : Addr) (cl : List (Str × Addr)) (fp : List Addr), PTs (X.blk s H scope (compEnvC scope cl Cc X.env) fp) ifs2 (tCs X.K EA WF C r.conds2)
  he : ∀ (s : Shared) (H : Hp) (Cc : Addr) (cl : List (Str × Addr)) (fp : List Addr), Snd (X.blk s H scope (compEnvC scope cl Cc X.env) fp) EA WF C elt r.elt
  hs : ∀ env x, foldedSetIterable it env x = pure x
  hs2 : ∀ env x, foldedSetIterable it2 env x = pure x
theorem cLc2_ok {n : Nat} {gg : Cc → CE} (hf : ∀ c, EOk EA c C k (gg c)) {elt tg it tg2 it2 : Expr} {ifs2 : List Expr} {scope : Scope} {r : Lc2} (h : cLc2 c n gg elt tg it tg2 it2 ifs2 scope = some r) (g : Ctx EA c k C X W) : Lc2Ok EA X W C elt tg it tg2 it2 ifs2 scope r := by
  unfold cLc2 at h
  dsimp only at h
  split at h
  · rename_i q
    rw [Option.bind_eq_some_iff] at h
    obtain ⟨⟨ik, its⟩, h1, h⟩ := h
    rw [Option.bind_eq_some_iff] at h
    obtain ⟨t, h2, h⟩ := h
    rw [Option.bind_eq_some_iff] at h
    obtain ⟨⟨ik2, its2⟩, h3, h⟩ := h
    rw [Option.bind_eq_some_iff] at h
    obtain ⟨t2, h4, h⟩ := h
    split at h
    · rename_i hs
      rw [Option.bind_eq_some_iff] at h
      obtain ⟨cs, h5, h⟩ := h
      rw [Option.map_eq_some_iff] at h
      obtain ⟨e, h6, rfl⟩ := h
      obtain ⟨q1, q2, _⟩ := cIt_ok (hf c) h1 g
      have q3 := fun s H Cc' cl fp => cIt_ok (hf (blkCc c scope)) h3 (ctx_blk (scope := scope) g s H Cc' cl fp)
      exact ⟨g.1.calm, by rw [g.1.hN]; exact g.1.nd, q1, by rw [g.1.hN, g.1.hs]; exact blkOk_by q.1, subB_of hs.1, fun _ z => z, subB_of hs.2, (cIt_shape h3).2, fun s H Cc' cl fp => cT_ok (ctx_blk g s H Cc' cl fp) h2, fun s H Cc' cl fp => (q3 s H Cc' cl fp).1,
        fun s H Cc' cl fp => cT_ok (ctx_blk g s H Cc' cl fp) h4, fun s H Cc' cl fp => cCond_ok (hf _) h5 (ctx_blk g s H Cc' cl fp), fun s H Cc' cl fp => hf _ _ _ h6 _ _ (ctx_blk g s H Cc' cl fp), q2, (cIt_shape h3).1⟩
    · cases h
  · cases h
theorem cComp_ok {n : Nat} {gg : Cc → CE} (hf : ∀ c, EOk EA c C k (gg c)) {elt : Expr} {gens : List Comprehension} {scope : Scope} {pos : Pos} {ie : IE} (h : cComp c n gg elt gens scope = some ie) (g : Ctx EA c k C X W) : Snd X EA W C (.ListComp elt gens scope pos) ie := by
  unfold cComp at h
  split at h
  · split at h
    · rename_i ea
      subst ea
      rw [Option.map_eq_some_iff] at h
      obtain ⟨r, h1, rfl⟩ := h
      have q := cLc1_ok hf h1 g
      exact snd_lcp q.calm q.nd q.hi q.ok q.ids q.hg q.ht q.he fun x => q.hs _ x
    · cases h
  · split at h
    · rename_i ea
      obtain ⟨rfl, rfl, e3⟩ := ea
      rw [List.isEmpty_iff] at e3
      subst e3
      rw [Option.map_eq_some_iff] at h
      obtain ⟨r, h1, rfl⟩ := h
      have q := cLc2_ok hf h1 g
      exact snd_lcp2 q.calm q.nd q.hi q.ok q.ids q.ids2 q.vs1 q.nl q.hg q.hi2 q.hg2 q.ht2 q.he (fun x => q.hs _ x) q.hs2
    · cases h
  · cases h
theorem cCall_ok {f : CE} (hf : EOk EA c C k f) {fe : Expr} {es : List Expr} {kws : List Keyword} {pos : Pos} {ie : IE} (h : cCall c f fe es kws pos = some ie) (g : Ctx EA c k C X W) : Snd X EA W C (.Call fe es kws pos) ie := by
  unfold cCall at h
  split at h
  · rename_i hk
    rw [List.isEmpty_iff] at hk
    subst hk
    split at h
    · exact cCallN_ok hf h g
    · exact cMeth_ok hf h g
    · exact cCals_ok hf h g
    · cases h
  · cases h
theorem cDict_ok {f : CE} (hf : EOk EA c C k f) {ks : List (Option Expr)} {vs : List Expr} {pos : Pos} {ie : IE} (h : cDict c f ks vs = some ie) (g : Ctx EA c k C X W) : Snd X EA W C (.Dict ks vs pos) ie := by
  unfold cDict at h
  split at h
  · rename_i q
    rw [List.isEmpty_iff, List.isEmpty_iff] at q
    obtain ⟨rfl, rfl⟩ := q
    split at h
    · cases h; exact snd_dspK
    · split at h
      · cases h; exact snd_dspT
      · cases h
  · split at h
    · rename_i q
      rw [Option.map_eq_some_iff] at h
      obtain ⟨ies, h1, rfl⟩ := h
      exact snd_dsp (cDisp_ok hf g h1) (fun z => by subst z; exact nomatch q.2) q.1
    · cases h
theorem cE_ok : ∀ (n : Nat) (c : Cc), EOk EA c C k (cE n c)
  | 0, c, e, ie, h, X, W, g => by cases h
  | n + 1, c, e, ie, h, X, W, g => by
    have hf := cE_ok n
    unfold cE at h
    split at h
    · exact cConst_ok h
    · exact cName_ok h g
    · exact cTup_ok (hf c) h g
    · rw [Option.map_eq_some_iff] at h
      obtain ⟨ies, h1, rfl⟩ := h
      exact snd_lst (cL_ok (hf c) h1 X W g)
    · rw [Option.bind_eq_some_iff] at h
      obtain ⟨o, h1, h⟩ := h
      rw [Option.bind_eq_some_iff] at h
      obtain ⟨ia, h2, h⟩ := h
      rw [Option.map_eq_some_iff] at h
      obtain ⟨ib, h3, rfl⟩ := h
      rw [bop_of h1]
      exact snd_bin (hf c _ _ h2 X W g) (hf c _ _ h3 X W g)
    · split at h
      · rw [Option.map_eq_some_iff] at h
        obtain ⟨ia, h1, rfl⟩ := h
        exact snd_not (hf c _ _ h1 X W g)
      · rw [Option.map_eq_some_iff] at h
        obtain ⟨ia, h1, rfl⟩ := h
        exact snd_neg (hf c _ _ h1 X W g)
      · cases h
    · obtain ⟨q1, q2⟩ := cBool_ok (hf c) g h
      exact q1.snd q2
    · rw [Option.bind_eq_some_iff] at h
      obtain ⟨it, h1, h⟩ := h
      rw [Option.bind_eq_some_iff] at h
      obtain ⟨ia, h2, h⟩ := h
      rw [Option.map_eq_some_iff] at h
      obtain ⟨ib, h3, rfl⟩ := h
      exact snd_ite (hf c _ _ h1 X W g) (hf c _ _ h2 X W g) (hf c _ _ h3 X W g)
    · exact cCmp_ok (hf c) h g
    · exact cSub_ok (hf c) h g
    · exact cCall_ok (hf c) h g
    · exact cComp_ok hf h g
    · exact cDict_ok (hf c) h g
    · cases h
end
end Cw
set_option Elab.async false
set_option linter.all false
set_option maxRecDepth 100000
set_option maxHeartbeats 4000000
set_option autoImplicit false
/-! Cw, part Za: two names at once -/
namespace Cw
open PySem L2

section
variable {X : Cx} {EA : Nat → Addr} {W : WX} {C : CallSem} {σ : L2.St} {F F' : FS} {H H' : Hp} {ρ ρ' : Rho} {a b : Expr} {ia ib : IE} {pos : Pos} {x y : Str}
/-- two values with their standing -/
def tF2 (K : PySem.W.Frag) (EA : Nat → Addr) (W : WX) (C : CallSem) (ia ib : IE) : TA := fun σ H Q => ∃ F ρ, Rel K F H ρ σ ∧ post K EA W σ F H ρ (evF C [ia, ib] ρ) fun xs F' H' _ => ∀ d e v w, xs = [d, e] → RepS K F' H' H d.1 d.2 v → RepS K F' H' H e.1 e.2 w → (∀ l, v = .ref l → w = .ref l → d.1 = true → e.1 = true → False) → Q [v, w] H'
theorem evF_two {ρ ρ' : Rho} {xs : List (Bool × PV)} (h : evF C [ia, ib] ρ = .ok xs ρ') : ∃ d e ρ1, ev C false ia ρ = .ok d ρ1 ∧ ev C false ib ρ1 = .ok e ρ' ∧ xs = [d, e] := by
  simp only [evF] at h
  obtain ⟨d, ρ1, h1, h⟩ := bind_inv h
  obtain ⟨t, ρ2, h2, h⟩ := bind_inv h
  obtain ⟨e, ρ3, h3, h2⟩ := bind_inv h2
  obtain ⟨u, ρ4, h4, h2⟩ := bind_inv h2
  cases h4
  cases h2
  cases h
  exact ⟨d, e, ρ1, h1, h3, rfl⟩
theorem pa_F2 (ha : Snd X EA W C a ia) (hsa : NoStar a) (hb : Snd X EA W C b ib) (hsb : NoStar b) : PA X [a, b] (tF2 X.K EA W C ia ib) := by
  refine PA.imp' (pa_cons ha.v (pa_cons hb.v pa_nil (hsb _ _)) (hsa _ _)) fun σ H Q h => ?_
  obtain ⟨F, ρ, r, h⟩ := h
  simp only [evF] at h
  refine ⟨F, ρ, r, h.bind.mono fun d F1 H1 ρ1 g1 s1 h1 v rv => ?_⟩
  refine ⟨F1, ρ1, g1, ((h1 F1 g1 s1).bind.bind).mono fun e F2 H2 ρ2 g2 s2 h2 w rw' => ?_⟩
  have h3 := (h2 F2 g2 s2).here g2 F2 g2 s2
  have h4 := h3.here g2
  refine h4 d e v w rfl (rv.step r s1 g1 s2) (rw'.back s1.1.al) fun l ev ew hd he => ?_
  subst ev ew
  obtain ⟨fd, d⟩ := d
  obtain ⟨fe, e⟩ := e
  simp only at hd he
  subst hd he
  obtain ⟨l1, e1, o1, n1⟩ := rv
  obtain ⟨l2, e2, o2, n2⟩ := rw'
  cases e1
  cases e2
  obtain ⟨u, hu⟩ := o1.live
  rw [hu] at n2; cases n2
theorem ss_par {i j : Nat} {px py pt pt2 : Pos} {kt k2 : Nat} (hcalm : X.calm = true) (hN : X.N.Nodup) (hi : X.N[i]? = some x) (hj : X.N[j]? = some y) (hij : i ≠ j) (hx : X.env.scope.names.lookup x = some .local) (hy : X.env.scope.names.lookup y = some .local)
    (ha : Snd X EA W C a ia) (hsa : NoStar a) (hb : Snd X EA W C b ib) (hsb : NoStar b)
    (hw : swappedStores [.Tuple [.Name x px, .Name y py] kt pt] (.Tuple [a, b] k2 pt2) X.env = pure (some [x, y])) : SndS X EA W C (.Assign [.Tuple [.Name x px, .Name y py] kt pt] (.Tuple [a, b] k2 pt2) pos) (.asgs [i, j] [ia, ib]) := by
  refine PS.imp' (ps_par hcalm hN hi hj hij hx hy (pa_F2 ha hsa hb hsb) hw rfl) fun D σ H h => ?_
  obtain ⟨F, ρ, r, h⟩ := h
  simp only [exS, List.length_cons, List.length_nil, if_true] at h
  refine ⟨F, ρ, r, h.ebind0.mono fun xs F1 H1 ρ1 g1 s1 h1 d e v w exs rv rw' ap => ⟨v, w, rfl, ?_⟩⟩
  subst exs
  simp only [setVs] at h1
  cases e1 : setV i d.1 d.2 ρ1 with
  | exc _ _ _ => exact absurd e1 (by unfold setV; split <;> simp)
  | bad => rw [e1] at h1; exact h1.elim
  | ok u ρ2 =>
  rw [e1, R.bind_ok] at h1
  cases e2 : setV j e.1 e.2 ρ2 with
  | exc _ _ _ => exact absurd e2 (by unfold setV; split <;> simp)
  | bad => rw [e2] at h1; exact h1.elim
  | ok u2 ρ3 =>
  rw [e2] at h1
  have no1 : ∀ l, v = .ref l → d.1 = true → ¬ OwnA ρ1 σ l := fun l ev hd => by
    obtain ⟨fd, d⟩ := d
    simp only at hd
    subst hd ev
    obtain ⟨l1, q1, o1, n1⟩ := rv
    cases q1
    exact EStep.fresh r s1 n1
  obtain ⟨r2, s2⟩ := set_any s1.1 g1 e1 rv no1
  have no2 : ∀ l, w = .ref l → e.1 = true → ¬ OwnA ρ2 (σ.set i (some v)) l := fun l ew he => by
    rintro ⟨m, t, d', hm, ht, hv⟩
    obtain ⟨⟨z, hz⟩, eρ, hp⟩ := setV_ok e1
    have hil : i < σ.length := by rw [← g1.len]; exact Rel.lt hz
    by_cases c : i = m
    · subst c
      rw [List.getElem?_set_self hil] at hv
      have ev : v = .ref l := by cases hv; rfl
      rw [eρ, set_at hz] at hm
      cases hd : d.1 with
      | true => exact ap l ev ew hd he
      | false => rw [hd] at hm; cases hm; cases ht
    · rw [List.getElem?_set_ne c] at hv
      rw [eρ, set_ne c] at hm
      obtain ⟨fe, e⟩ := e
      simp only at he
      subst he ew
      obtain ⟨l1, q1, o1, n1⟩ := rw'
      cases q1
      exact EStep.fresh r s1 n1 ⟨m, t, d', hm, ht, hv⟩
  obtain ⟨r3, s3⟩ := set_any s2 r2 e2 rw' no2
  exact h1 F1 H1 _ r3 s3
end
end Cw
set_option Elab.async false
set_option linter.all false
set_option maxRecDepth 100000
set_option maxHeartbeats 4000000
set_option autoImplicit false
/-! Cw, part Ha: a comprehension while an exception is being handled -/
namespace Cw
open PySem PySem.Spec PyProof.Rows L2 L2H

section
variable {X : Cx} {pins : List (Addr × Obj)} {σ : L2.St} {H : Hp} {s : Shared} {p : Addr × Obj}
/-- the block's context, the handled exception pinned -/
abbrev blkH (X : Cx) (s : Shared) (H : Hp) (scope : Scope) (ce : PySem.Env) (fp : List Addr) (p : Addr × Obj) : Cx := { X.blk s H scope ce fp with pn := [p] }
theorem okH {X : Cx} {ps : List (Addr × Obj)} (o : X.Ok) : ({ X with pn := ps } : Cx).Ok :=
  ⟨o.mod, o.kind, o.glob, o.blt, o.above, o.inj, o.has, o.cab, o.hd, o.frames, o.stk, o.exf, o.bs, o.bsz, o.noex, o.exfs, o.funs, o.frf⟩
theorem invH {X : Cx} {ps qs : List (Addr × Obj)} (I : Inv X qs σ H s) (h : ∀ q ∈ ps, s.heap.get? q.1 = some q.2 ∧ H q.1 = none ∧ q.1 ≠ X.env.locals ∧ q.1 ∉ X.fs ∧ ∀ v, q.2.data ≠ .cell v) : Inv ({ X with pn := ps } : Cx) [] σ H s :=
  ⟨okH I.ok, I.os, I.bare, I.base, I.loc, I.cell, I.free, I.freeC, fun q hq => h q (by simpa using hq), I.hok, I.len⟩
theorem lc_coreH {Q : VK} {elt tg iter : Expr} {ifs : List Expr} {scope : Scope} {own : List (Str × Nat)} {pos pos' : Pos} {wi : TI} {g : TG} {tt : TT} {te : TE} {use : Option (Value → Sem Unit)} {Qf : Value → Shared → Prop}
    (hot : Hot1 X.A p) (hp : p ∈ X.pn) (hN : X.N.Nodup) (I : Inv X pins σ H s) (hi : PIH X tg iter wi) (ok : BlkOk X.N X.env.scope scope own)
    (hg : ∀ (s : Shared) (H : Hp) (c : Addr) (cl : List (Str × Addr)) (fp : List Addr), PG (blkH X s H scope (compEnvC scope cl c X.env) fp p) tg g)
    (ht : ∀ (s : Shared) (H : Hp) (c : Addr) (cl : List (Str × Addr)) (fp : List Addr), PTs (blkH X s H scope (compEnvC scope cl c X.env) fp p) ifs tt)
    (he : ∀ (s : Shared) (H : Hp) (c : Addr) (cl : List (Str × Addr)) (fp : List Addr), PE (blkH X s H scope (compEnvC scope cl c X.env) fp p) elt te) (hs : ∀ x, foldedSetIterable iter X.env x = pure x)
    (h : tLc wi g tt te (own.map (·.2)) σ H Q)
    (out : ∀ D c t m H', Inv X pins σ H' t → Q (.ref D) H' → t.heap.Ns c m → FpOk X pins H' c → compPost (model X.prog X.w) X.A X.xe use Qf (.ref D) c (.ok .next) t) :
    wpAny (model X.prog X.w) X.A (comprehension (.ListComp elt [⟨tg, iter, ifs, 0⟩] scope pos) scope X.env pos' (newList []) false (eval iter X.env) use) Qf X.xe s := by
  refine wpAny_comprehension_free (use := use) rfl hs (closure_ok fun y hy e => (ok.free y hy e).elim (fun z => I.ok.has _ (.inl z)) fun z => I.ok.has _ (.inr z)) ok.kind (fun y hy e => by rw [ok.uniq y hy, e])
    (thn (hi.run pins s σ H _ I h) fun _ s1 q1 => thn q1 fun _ s2 q2 => ?_)
  obtain ⟨it, fp, tn, J, H2, rfl, I2, T, st2, f2, q⟩ := q2
  refine wpAny_newObj_type (newEnv_comp ?_) (by show 0 ≤ sizeLine; decide)
  generalize eD : s2.heap.objs.size = D
  obtain ⟨Wt, ⟨m0, w0⟩, turn⟩ := q D (I2.hok.fresh (Nat.le_of_eq eD))
  generalize e3 : ({ s2 with heap := s2.heap.push { cls := .type "list", data := .seq ([] : List Value).toArray } } : Shared) = s3
  have h3 : s3.heap = s2.heap.push { cls := .type "list", data := .seq ([] : List Value).toArray } := by rw [← e3]
  have I3 : Inv X pins σ (upd H2 D (.lst [])) s3 := by
    rw [← e3]
    refine I2.laid (t' := s2.toks) (fun _ _ e => Heap.get?_push_of_some _ e) (Nat.le_of_eq eD) ⟨Nat.zero_le _, [], 0, .nil, ?_⟩
    rw [← eD]; exact Heap.get?_push_size _ rfl
  have f3 : ∀ b ∈ fp, FpOk X pins (upd H2 D (.lst [])) b ∧ b < s3.heap.objs.size := by
    intro b hb
    obtain ⟨o, e, _⟩ := T.obj _ _ st2 b hb
    have lt := Heap.lt_size e
    refine ⟨⟨?_, (f2 b hb).2⟩, by rw [h3, Heap.size_push]; exact Nat.lt_succ_of_lt lt⟩
    rw [upd_ne (by rw [← eD]; exact Nat.ne_of_lt lt)]; exact (f2 b hb).1
  have st3 : tn 0 s3.heap := T.keep _ _ _ st2 fun b _ o e => by rw [h3]; exact Heap.get?_push_of_some _ e
  have P3 := I3.pin p (List.mem_append_left _ hp)
  have pS : p.1 ∉ frs X.stack := fun z => (List.mem_cons.mp (I3.stkSub p.1 z)).elim P3.2.2.1 P3.2.2.2.1
  have I4 := block_start I3 ok hN f3
  generalize ecl : cellsFrom (s3.heap.objs.size + 1) scope.names (cloFrom X.env.cells scope.names []) = cl at I4
  have pg := hg s3 (upd H2 D (.lst [])) s3.heap.objs.size cl fp
  have pt := ht s3 (upd H2 D (.lst [])) s3.heap.objs.size cl fp
  have pe := he s3 (upd H2 D (.lst [])) s3.heap.objs.size cl fp
  show codeAny _ _ (.compStart (.ListComp elt [⟨tg, iter, ifs, 0⟩] scope pos) 0 (.ref it) (.ref D) (compEnvC scope cl s3.heap.objs.size X.env)) (compPost (model X.prog X.w) X.A X.xe use Qf (.ref D) s3.heap.objs.size) { s3 with heap := pushCells (s3.heap.push { cls := .type "dict", data := .dict #[] }) scope.names }
  generalize ece : compEnvC scope cl s3.heap.objs.size X.env = ce at I4 pg pt pe ⊢
  have loc : ce.locals = s3.heap.objs.size := by rw [← ece]; rfl
  have free0 : ∀ b ∈ fp, (upd H2 D (.lst [])) b = none := fun b hb => (f3 b hb).1.1
  generalize eH : upd H2 D (.lst []) = H3 at I3 I4 pg pt pe w0 free0 f3 P3
  generalize e4 : ({ s3 with heap := pushCells (s3.heap.push { cls := .type "dict", data := .dict #[] }) scope.names } : Shared) = s4 at I4 ⊢
  have grown : ∀ b o, s3.heap.get? b = some o → s4.heap.get? b = some o := fun b o e => by
    rw [← e4]; exact pushCells_keeps _ _ _ _ (Heap.get?_push_of_some _ e)
  have st4 : tn 0 s4.heap := T.keep _ _ _ st3 fun b _ o e => grown b o e
  have J4 : Inv (blkH X s3 H3 scope ce fp p) [] (L2.wipe σ (own.map (·.2))) H3 s4 := invH I4 fun q hq => by
    cases List.mem_singleton.mp hq
    exact ⟨grown _ _ P3.1, P3.2.1, by show p.1 ≠ ce.locals; rw [loc]; exact Nat.ne_of_lt (Heap.lt_size P3.1), pS, P3.2.2.2.2⟩
  have hc : HotC (blkH X s3 H3 scope ce fp p) := ⟨p, hot, List.mem_singleton.mpr rfl⟩
  have stat : ∀ {τ : L2.St} {H' : Hp} {t : Shared}, Inv (blkH X s3 H3 scope ce fp p) [] τ H' t → (∀ b ∈ fp, H' b = none) → ∀ b ∈ fp, FpOk (blkH X s3 H3 scope ce fp p) [] H' b := fun {τ H' t} I' z b hb =>
    ⟨z b hb, (I'.ok.exf b hb).1, I'.ok.exfs b hb, .inl hb, fun x c e => (I'.ok.exf b hb).2 x c e, fun q hq => by
      have eq : q = p := by simpa using (show q ∈ [p] ++ ([] : List (Addr × Obj)) from hq)
      rw [eq]
      exact (f3 b hb).1.2.2.2.2.2 p (List.mem_append_left _ hp)⟩
  refine codeAny_compStart_list ?loop (T.self X.A 0 _ _ _ st4 ?loop)
  refine compLoop_any (fun n t => ∃ i H', Inv (blkH X s3 H3 scope ce fp p) [] (L2.wipe σ (own.map (·.2))) H' t ∧ tn i t.heap ∧ (∀ b ∈ fp, H' b = none) ∧ Wt i n H') ?_ m0 ⟨0, H3, J4, st4, free0, w0⟩
  rintro n s5 ⟨i, H5, I5, st5, n5, w5⟩
  rcases turn i n H5 w5 with ⟨stop, fin⟩ | ⟨go, Nx, hNx, step⟩
  · refine thnF (T.done (blkH X s3 H3 scope ce fp p) rfl rfl rfl hc i [] s5 _ H5 (fun _ _ => False) I5 (stat I5 n5) st5 stop) fun r s6 ⟨hr, I6⟩ => ?_
    subst hr
    have back : Inv X pins σ H5 s6 := I3.call' (ch := fp) I6.os I6.base I6.hok I6.bare fun b hb => ⟨(f3 b hb).1.2.2.2.1, (f3 b hb).1.2.1, (f3 b hb).1.2.2.2.2.1, (f3 b hb).1.2.2.2.2.2⟩
    have gone : H5 s3.heap.objs.size = none := by rw [← loc]; exact I6.free
    obtain ⟨m, ns, _⟩ := I6.loc
    have ns : s6.heap.Ns ce.locals m := ns
    rw [loc] at ns
    exact out D s3.heap.objs.size s6 m H5 back fin ns (I3.fpOk (Nat.le_refl _) gone)
  · refine thnF (T.item (blkH X s3 H3 scope ce fp p) rfl rfl rfl hc i [] s5 _ H5 (fun _ _ => False) I5 (stat I5 n5) st5 go) fun r s6 ⟨u, hr, q6⟩ => ?_
    subst hr
    refine thnF q6 fun _ s7 ⟨x, H7, I7, r7, y7, st7, n7⟩ => ?_
    have I7' := I7.pinned (stat I7 n7) (T.obj _ _ st7)
    refine thnF (pg.run _ s7 _ H7 x u _ I7' r7 (step x H7 y7)) fun _ s8 ⟨σ8, H8, I8, same, q8⟩ => ?_
    refine thnF (pt.run _ s8 σ8 H8 _ I8 q8) fun b s9 ⟨H9, I9, q9⟩ => ?_
    have again : ∀ {t : Shared} {H' : Hp}, Inv (blkH X s3 H3 scope ce fp p) ([] ++ pinsAt fp s7.heap) σ8 H' t → Nx H' → ∃ m, m < n ∧ ∃ i H', Inv (blkH X s3 H3 scope ce fp p) [] (L2.wipe σ (own.map (·.2))) H' t ∧ tn i t.heap ∧ (∀ b ∈ fp, H' b = none) ∧ Wt i m H' := fun {t H'} I' nx => by
      obtain ⟨m', hm, w'⟩ := hNx H' nx
      have stays : ∀ b ∈ fp, ∀ o, s7.heap.get? b = some o → t.heap.get? b = some o ∧ H' b = none := fun b hb o e => by
        have z := I'.pin (b, o) (List.mem_append_right _ (List.mem_append_right _ (mem_pinsAt hb e)))
        exact ⟨z.1, z.2.1⟩
      refine ⟨m', hm, i + 1, H', (I'.unpinned (pins := [])).weak (by rw [← same, wipe_length]) (fun j v e => ?_), T.keep _ _ _ st7 fun b hb o e => (stays b hb o e).1, fun b hb => ?_, w'⟩
      · rw [← same] at e; exact (wipe_some e).1
      · obtain ⟨o, e, _⟩ := T.obj _ _ st7 b hb
        exact (stays b hb o e).2
    cases b with
    | true =>
      simp only [if_true] at q9 ⊢
      exact thnF (pe.run _ s9 σ8 H9 _ I9 q9) fun z s10 ⟨yv, H10, I10, r10, acc, hD10, hz10, nx⟩ => app_ok (X := blkH X s3 H3 scope ce fp p) I10 hD10 hz10 r10 fun s11 I11 => again I11 nx
    | false =>
      simp only [Bool.false_eq_true, if_false] at q9 ⊢
      exact again I9 q9
end
end Cw
set_option Elab.async false
set_option linter.all false
set_option maxRecDepth 100000
set_option maxHeartbeats 4000000
set_option autoImplicit false
/-! Cw, part Hb: a store of such a comprehension; isinstance of the handled exception; a def that is called then -/
namespace Cw
open PySem PySem.Spec PyProof.Rows L2 L2H

section
variable {X : Cx} {p : Addr × Obj}
theorem ps_setLcH {i : Nat} {y : Str} {py : Pos} {elt tg iter : Expr} {ifs : List Expr} {scope : Scope} {own : List (Str × Nat)} {pos spos : Pos} {wi : TI} {g : TG} {tt : TT} {te : TE} (hot : Hot1 X.A p) (hp : p ∈ X.pn) (hN : X.N.Nodup) (hy : X.N[i]? = some y)
    (hyl : X.env.scope.names.lookup y = some .local) (hsw : swapsWith (.ListComp elt [⟨tg, iter, ifs, 0⟩] scope pos) (some (.Name y py)) spos.line X.env = pure true) (hi : PIH X tg iter wi) (ok : BlkOk X.N X.env.scope scope own)
    (hg : ∀ (s : Shared) (H : Hp) (c : Addr) (cl : List (Str × Addr)) (fp : List Addr), PG (blkH X s H scope (compEnvC scope cl c X.env) fp p) tg g)
    (ht : ∀ (s : Shared) (H : Hp) (c : Addr) (cl : List (Str × Addr)) (fp : List Addr), PTs (blkH X s H scope (compEnvC scope cl c X.env) fp p) ifs tt)
    (he : ∀ (s : Shared) (H : Hp) (c : Addr) (cl : List (Str × Addr)) (fp : List Addr), PE (blkH X s H scope (compEnvC scope cl c X.env) fp p) elt te) (hs : ∀ x, foldedSetIterable iter X.env x = pure x) :
    PS X (.Assign [.Name y py] (.ListComp elt [⟨tg, iter, ifs, 0⟩] scope pos) spos) (tAsg (tLc wi g tt te (own.map (·.2))) (gName i)) := by
  refine ⟨fun pins s σ H D I h => ?_⟩
  rw [exec_Assign_Name_used _ _ _ _ hsw]
  refine wpAny_bind (wpAny_standAt (wpAny_bind ?_))
  show wpAny _ X.A (do
    let _ ← comprehension (.ListComp elt [⟨tg, iter, ifs, 0⟩] scope pos) scope X.env (firstIterPos [⟨tg, iter, ifs, 0⟩] pos) (newList []) false (eval iter X.env) (some (assign (.Name y py) X.env))) _ _ s
  have want : tLc wi g tt te (own.map (·.2)) σ H (fun x H1 => gName i x σ H1 D.nx) := h
  refine wpAny_bind (thn (lc_coreH (Qf := fun _ t => SP X pins D .next t) hot hp hN I hi ok hg ht he hs want fun L c t m H' J q ns f => ?_) fun _ t z => wpAny_pure (wpAny_pure z))
  show wpAny _ _ (assign (.Name y py) X.env (.ref L)) _ _ t
  refine wpAny_assign_Name (store_ok2 (v := V.ref L) J hN hy (.inl hyl) rfl (fun t2 J2 ⟨b, sb, hb⟩ => ?_) (.inr hyl))
  obtain ⟨k0, k1, k2, k3, k4, k5⟩ := f
  have ne : c ≠ b := hb.elim (fun z => by rw [z]; exact k1) fun z e => k4 y b z e.symm
  exact ⟨m, ns.sameBut sb ne, fun _ sb3 => ⟨_, H', J2.turned (t' := t2.toks) (fun d o hd e => (sb3.2 d hd).trans e) k0 k1 k3 k4 k5, q⟩⟩
/-- isinstance(e, C) of the handled exception -/
theorem call_isH {a D : Addr} {oe : Obj} (hp : (a, oe) ∈ X.pn) (C : ExcC X.K D) (hz : Zc (.ref D) none oe) (hf : ∃ vs, oe.data = .fields vs) : CallR X (.builtin "isinstance") (rIsE X.K D a) := by
  rintro pins s σ H xs us Q I r ⟨c, cv, b, rfl, same, e, q⟩
  obtain ⟨u1, u2, rfl, r1, r2⟩ := Vals.two r
  cases r1
  cases same _ r2
  have at_ := (I.pin (a, oe) (List.mem_append_left _ hp)).1
  obtain ⟨vs, hv⟩ := hf
  have J : PySem.W.InstAt s.heap a oe D none := by
    obtain ⟨k1, k2, k3, k4⟩ := oe
    obtain ⟨z1, z2⟩ := hz
    dsimp only at z1 z2 hv
    subst z1 z2 hv
    exact ⟨at_, rfl, rfl, trivial⟩
  exact PySem.W.kia_one (PySem.W.handS_kitx_exc C.hg C.hk C.hs C.hd C.ha C.hn C.ht C.hm) I.kIn J e (fun z => nomatch z) fun tk => ⟨.bl b, H, I.kept (t' := tk) fun _ _ z => z, rfl, q⟩
end

/-- what a def promises that is called with the handled exception of the class number c -/
structure FnErr (EA : Nat → Addr) (P : Program) (w : World) (K : PySem.W.Frag) (mg : Str → Option Value) (base : Heap) (k : Nat) (f : Addr) (fd : FuncData) (x : Str) : Prop where
  run : ∀ (A : Around) (outer : List PySem.Env) (s : Shared) (H : Hp) (p : Addr × Obj) (c : Nat) (Q : VK) (E : XK), RoomH k A → Hot1 A p → PinOk outer H s p → Env0 P w K mg base A outer s H → BindsTo s fd ⟨[.ref p.1], []⟩ [(x, .ref p.1)] →
    Zc (.ref (EA c)) none p.2 → (∃ vs, p.2.data = .fields vs) → c < 5 → (∀ H', (∀ b o, H b = some o → H' b = some o) → ∀ v, (∀ K' F, Rep K' F H' (errStr c) v) → Q v H') → codeAny (model P w) A (.call (.ref f) ⟨[.ref p.1], []⟩) (L2.CR (L2N.CX P w) outer P w H s Q E) s
theorem fnErr_body {EA : Nat → Addr} {P : Program} {w : World} {K : PySem.W.Frag} {mg : Str → Option Value} {base : Heap} {k : Nat} {f : Addr} {name qual : Str} {params : Arguments} {body : List Stmt} {scope : Scope} {dV kV doc pm cdv ct oc : Value} {an od : Option Addr}
    {osl : Array (Option Value)} {N : List Str} {x : Str} (lk : K.lookup f = some ⟨oc, od, .func (PySem.W.fnOf name qual params body scope dV kV doc pm an cdv ct), osl⟩) (hcd : PySem.W.codeIn K cdv qual = true) (S : FnScope N [x] scope)
    (hb : ∀ (A : Around) (outer : List PySem.Env) (s : Shared) (H : Hp) (p : Addr × Obj) (c : Nat) (Q : VK) (E : XK), Hot1 A p → RoomH k (A.deeper (envOfC qual scope s.heap.objs.size f cdv)) → Zc (.ref (EA c)) none p.2 → (∃ vs, p.2.data = .fields vs) → c < 5 → (∀ H', (∀ b o, H b = some o → H' b = some o) → ∀ v, (∀ K' F, Rep K' F H' (errStr c) v) → Q v H') →
      ∃ t, PSs (cxH (L2N.CX P w) P w K mg base N qual scope f cdv A outer s H E p) body t ∧ t { nx := fun _ H' => Q .non H', rt := Q } (L2.start N [.ref p.1]) H) :
    FnErr EA P w K mg base (k + 1) f (PySem.W.fnOf name qual params body scope dV kV doc pm an cdv ct) x := by
  refine ⟨fun A outer s H p c Q E room hot pin env0 bt hz hf hc5 hQ => ?_⟩
  have kin : K.In s.heap := env0.mod.kin.keeps fun b o e => (env0.bs b o e).1
  have nolim : s.heap.NoLimit := env0.mod.nolimit.keeps fun b o e => (env0.bs b o e).1
  refine codeAny_call_function room.depth (kin _ _ lk) rfl S.co S.gen rfl (PySem.W.codeRec_of kin hcd) (bt _ _ _ _ ?_)
  refine wpAny_newFunctionEnv_cells S.kind (fun ⟨n, v⟩ hy => (S.par n (List.of_mem_zip (show (n, v) ∈ [x].zip [Value.ref p.1] from hy)).1).imp_right fun q => ⟨q, PySem.W.cellsFrom_some _ _ _ (.inl q)⟩) fun en he s1 x1 => ?_
  subst he
  refine ⟨nolim.keeps x1.toInCall.keep, codeAny_func ?_⟩
  obtain ⟨t, ht, hq⟩ := hb A outer s H p c Q E hot (room.deeper _) hz hf hc5 hQ
  have I : Inv (cxH (L2N.CX P w) P w K mg base N qual scope f cdv A outer s H E p) [] (L2.start N [.ref p.1]) H s1 := inv_startH (ps := [x]) (us := [.ref p.1]) S pin env0 rfl (.cons rfl .nil) x1
  refine wpAny_mono (ht.run [] s1 (L2.start N [.ref p.1]) H _ I hq) (fun fl s' hs => ?_) fun e s' hs => hs
  cases fl with
  | ret u =>
    obtain ⟨v, σ', H', J, rv, q⟩ := hs
    exact ⟨v, H', J.os, J.bare, J.base, J.hok, rv, q⟩
  | next =>
    obtain ⟨σ', H', J, q⟩ := hs
    exact ⟨.non, H', J.os, J.bare, J.base, J.hok, rfl, q⟩
  | brk => obtain ⟨_, _, _, q⟩ := hs; exact q.elim
  | cont => obtain ⟨_, _, _, q⟩ := hs; exact q.elim
end Cw
set_option Elab.async false
set_option linter.all false
set_option maxRecDepth 100000
set_option maxHeartbeats 4000000
set_option autoImplicit false
/-! Cw, part Hc: the rows of _law_error -/
namespace Cw
open PySem L2 L2H

section
variable {X : Cx} {EA : Nat → Addr} {W : WX} {C : CallSem} {σ : L2.St} {F F' : FS} {H H' : Hp} {ρ ρ' : Rho} {a b c : Expr} {ia ib ic : IE} {pos p pos' : Pos} {x y : Str}
/-- a built-in of one value whose word is known -/
theorem snd_bltR {bi : Bi} (hr : CallR X (biV bi) (rB1 X bi)) (hn : x = biN bi) (hgl : Gl X x) (hm : X.mg x = none) (hb : bootBuiltins x = some (biV bi)) (h1 : x ≠ "__name__") (h2 : (x == ("__debug__" : Str)) = false) (ha : Snd X EA W C a ia) (hs : NoStar a) : Snd X EA W C (.Call (.Name x p) [a] [] pos) (.blt bi ia) := by
  have he : starEach [a] X.env = (false, eval a X.env) :: starEach [] X.env := hs _ _
  have pa : PA X [a] (tCons (tPk X.K EA W C ia) tNil) := pa_cons ha.p pa_nil he
  have hp : PE X (.Call (.Name x p) [a] [] pos) (tCB (rB1 X bi) (tCons (tPk X.K EA W C ia) tNil)) := by
    cases bi <;> first | exact pe_callB hr hgl hm hb pa h1 h2 he rfl | exact pe_callTy hr hgl hm hb pa h1 h2 he rfl
  refine Snd.of (raw := fun ρ => (pk ia (ev C false ia ρ) ρ).bind fun x ρ1 => R.opt (bltV bi [x.2]) ρ1) (fun m ρ => rfl) (fun _ z => nomatch z) (fun _ _ => rfl) (PE.imp' hp fun σ H Q h => ?_)
  obtain ⟨F, ρ, r, h⟩ := h
  refine ⟨F, ρ, r, h.bind.mono fun x F1 H1 ρ1 g1 s1 h1 v pk1 p1 => ?_⟩
  obtain ⟨fr, z, ez, q⟩ := post.res (h1 F1 g1 s1) s1.1.al
  exact b1_of g1 p1 ez q
theorem PIH.imp' {tg e : Expr} {t t' : TI} (h : PIH X tg e t) (i : ∀ σ H Q, t' σ H Q → t σ H Q) : PIH X tg e t' := ⟨fun pins s σ H Q I q => h.run pins s σ H Q I (i σ H Q q)⟩
theorem pi_r1H {tg : Expr} (hg : Gl X "range") (hm : X.mg "range" = none) (ha : Snd X EA W C a ia) (hs : NoStar a) : PIH X tg (.Call (.Name "range" p) [a] [] pos) (iR X.K EA W C .range1 [ia]) := by
  refine PIH.imp' (pi_range1H hg hm (SndL.cons ha hs .nil).pa (hs.one _)) fun σ H R h => ?_
  obtain ⟨F, ρ, r, h⟩ := h
  simp only [itR] at h
  refine ⟨F, ρ, r, h.bind.mono fun ds F1 H1 ρ1 g1 s1 h1 vs rvs => ?_⟩
  obtain ⟨zs, e, q⟩ := (h1 F1 g1 s1).opt g1
  unfold itV at e
  split at e <;> first | (rename_i hh; cases hh; done) | skip
  all_goals first | (cases e; done) | skip
  rename_i j _
  split at e
  · rename_i c
    cases e
    obtain ⟨v, t, rfl, rv, rt⟩ := rvs
    cases rt
    have ev : v = .int j := rv
    subst ev
    refine ⟨j, rfl, c.1, c.2, q _ fun own _ _ => walk_rng (by simp) fun i d h => ?_⟩
    have : ((List.range j.toNat).map fun k : Nat => PV.int (k : Int)) = (List.range j.toNat).map fun k : Nat => PV.int (0 + (k : Int)) := by simp
    rw [this] at h
    exact rng_at h
  · cases e
/-- a test of the handled exception's class -/
def tIs (p : Addr × Obj) (b : Bool) : TE := fun σ H Q => σ[0]? = some (some (.ref p.1)) ∧ Q (.bl b) H
theorem pe_isH {q : Addr × Obj} {D Ci : Addr} {b : Bool} {pa pb pc pd : Pos} (hq : q ∈ X.pn) (hE : ExcC X.K D) (hz : Zc (.ref D) none q.2) (hf : ∃ vs, q.2.data = .fields vs) (hN : X.N[0]? = some ("e" : Str)) (hv : Vis X.env.scope "e") (hgi : Gl X "isinstance") (hmi : X.mg "isinstance" = none)
    (hgC : Gl X x) (hmC : X.mg x = some (.ref Ci)) (hdC : (x == ("__debug__" : Str)) = false) (kit : PySem.W.kitOne X.K (.ref D) (.ref Ci) = some b) :
    PE X (.Call (.Name "isinstance" pa) [.Name "e" pb, .Name x pc] [] pd) (tIs q b) := by
  refine PE.imp' (pe_callB (call_isH (a := q.1) (oe := q.2) hq hE hz hf) hgi hmi rfl (pa_cons (pe_var hN hv (by decide) (by decide)) (pa_cons (pe_glob (v := .ref Ci) hgC hmC rfl hdC) pa_nil)) (by decide) (by decide) rfl rfl) fun σ H Q h => ?_
  exact ⟨_, h.1, .ref Ci, .ref Ci, b, rfl, fun u e => e, kit, h.2⟩

/-! ### the three rows -/
theorem fnk {c : Cc} (h : ¬ (c.sc.kind == ScopeKind.function) = false) : c.sc.kind = .function := by
  cases e : c.sc.kind <;> rw [e] at h <;> first | rfl | exact absurd rfl h
def eN : List Str := ["e", "kinds", "names", "k"]
def eC (scope : Scope) : Cc := ⟨eN, scope, fun _ => true, ⟨[], [], [], []⟩, 0⟩
/-- what is looked up of the two scopes -/
def eB (scope sc2 : Scope) : Bool := (scope.kind == .function) && visB (eC scope) "e" && locB (eC scope) "kinds" && visB (eC scope) "names" && (scope.names.lookup ("names" : Str) == some .local) && glB (eC scope) "isinstance" && glB (eC scope) "range" && glB (eC scope) "len" && glB (eC scope) "int" &&
  visB (blkCc (eC scope) sc2) "k" && visB (blkCc (eC scope) sc2) "kinds" && storeB (blkCc (eC scope) sc2) "k" && blkC eN scope sc2 [(("k" : Str), 3)] && !(sc2.names.any fun (n, k) => n == ("names" : Str) && (k == .local || k == .cell))
/-- where the rows stand -/
structure ECx (EA : Nat → Addr) (X : Cx) (scope sc2 : Scope) (q : Addr × Obj) (W : WX) : Prop where
  b : eB scope sc2 = true
  hN : X.N = eN
  hs : X.env.scope = scope
  hf : ∀ y, X.fn y = true
  un : X.A.units + 200 < cLine
  hot : Hot1 X.A q
  hq : q ∈ X.pn
  free : ∀ y ∈ (["isinstance", "range", "len", "int"] : List Str), X.mg y = none
theorem eN_nd : eN.Nodup := by decide +kernel
variable {scope sc2 : Scope} {q : Addr × Obj}
theorem ECx.facts (g : ECx EA X scope sc2 q W) : scope.kind = .function ∧ Vis scope "e" ∧ Loc scope "kinds" ∧ Vis scope "names" ∧ scope.names.lookup ("names" : Str) = some .local ∧ scope.names.lookup ("isinstance" : Str) = some .globalImplicit ∧ scope.names.lookup ("range" : Str) = some .globalImplicit ∧
    scope.names.lookup ("len" : Str) = some .globalImplicit ∧ scope.names.lookup ("int" : Str) = some .globalImplicit ∧ Vis (relS scope sc2) "k" ∧ Vis (relS scope sc2) "kinds" ∧ storeB (blkCc (eC scope) sc2) "k" = true ∧ BlkOk eN scope sc2 [(("k" : Str), 3)] ∧
    (sc2.names.any fun (n, k) => n == ("names" : Str) && (k == .local || k == .cell)) = false := by
  have h := g.b
  unfold eB at h
  simp only [Bool.and_eq_true] at h
  obtain ⟨⟨⟨⟨⟨⟨⟨⟨⟨⟨⟨⟨⟨h1, h2⟩, h3⟩, h4⟩, h5⟩, h6⟩, h7⟩, h8⟩, h9⟩, h10⟩, h11⟩, h12⟩, h13⟩, h14⟩ := h
  exact ⟨fnk (c := eC scope) (fun z => by rw [show ((eC scope).sc.kind == ScopeKind.function) = true from h1] at z; cases z), vis_of (c := eC scope) h2, loc_of (c := eC scope) h3, vis_of (c := eC scope) h4, by simpa using h5, (glB_of (c := eC scope) h6).1, (glB_of (c := eC scope) h7).1, (glB_of (c := eC scope) h8).1, (glB_of (c := eC scope) h9).1,
    vis_of (c := blkCc (eC scope) sc2) h10, vis_of (c := blkCc (eC scope) sc2) h11, h12, blkOk_by h13, by simpa using h14⟩
def errNames : List (List Nat) := [[114, 101, 102, 117, 115, 101, 100], [108, 97, 114, 103, 101], [109, 105, 115, 115, 105, 110, 103], [112, 97, 112, 101, 114], [102, 111, 114, 109]]
def eElt : IE := .idx (.lst (errNames.map fun s => .cst (.str s))) (.var 3)
def eS2 : IS := .asg (.name 2) (.lcp [3] (.name 3) .range1 [.cst (.int 5)] [.idx (.var 1) (.var 3)] eElt)
def eS3 : IS := .ret (.idx (.lst [.cst (.str [111, 100, 100]), .idx (.bin .add (.var 2) (.lst [.cst (.str [])])) (.cst (.int 0))]) (.blt .int (.cmp .eq (.blt .len (.var 2)) (.cst (.int 1)))))
theorem snd_strc {x : Str} {l : List Nat} {j : Nat} (h : x.cps.toList = l) : Snd X EA W C (.Constant (.str x) j pos) (.cst (.str l)) := by
  subst h
  exact snd_cst pe_str (fun _ _ _ => rep_str _) (fun _ _ => rfl)
theorem e_S2 {p1 p2 p3 p4 p5 p6 p7 p8 p9 pA pB pC pD q1 q2 q3 q4 q5 spos : Pos} {j1 j2 j3 j4 j5 j6 : Nat} (g : ECx EA X scope sc2 q W) (hl : (p1.line == p2.line) = true) : SndS X EA W C (.Assign [.Name "names" p1] (.ListComp (.Subscript (.List [.Constant (.str "refused") j1 q1, .Constant (.str "large") j2 q2, .Constant (.str "missing") j3 q3, .Constant (.str "paper") j4 q4, .Constant (.str "form") j5 q5] p3) (.Name "k" p4) p5)
      [⟨.Name "k" p6, .Call (.Name "range" p7) [.Constant (.int 5) j6 p8] [] p9, [.Subscript (.Name "kinds" pA) (.Name "k" pB) pC], 0⟩] sc2 p2) spos) eS2 := by
  obtain ⟨f1, f2, f3, f4, f5, f6, f7, f8, f9, f10, f11, f12, f13, f14⟩ := g.facts
  have hu := g.un
  have nd : X.N.Nodup := by rw [g.hN]; exact eN_nd
  have hsc : ∀ (s : Shared) (H : Hp) (cc : Addr) (cl : List (Str × Addr)) (fp : List Addr), (blkH X s H sc2 (compEnvC sc2 cl cc X.env) fp q).env.scope = relS scope sc2 := fun s H cc cl fp => by
    show relabel sc2 X.env = _
    rw [← g.hs]; rfl
  have vk : ∀ (s : Shared) (H : Hp) (cc : Addr) (cl : List (Str × Addr)) (fp : List Addr) {W' : WX} {pp : Pos}, Snd (blkH X s H sc2 (compEnvC sc2 cl cc X.env) fp q) EA W' C (.Name "k" pp) (.var 3) := fun s H cc cl fp {W' pp} => snd_var (by show X.N[3]? = _; rw [g.hN]; rfl) (by rw [hsc]; exact f10) (by decide) (by decide)
  have vks : ∀ (s : Shared) (H : Hp) (cc : Addr) (cl : List (Str × Addr)) (fp : List Addr) {W' : WX} {pp : Pos}, Snd (blkH X s H sc2 (compEnvC sc2 cl cc X.env) fp q) EA W' C (.Name "kinds" pp) (.var 1) := fun s H cc cl fp {W' pp} => snd_var (by show X.N[1]? = _; rw [g.hN]; rfl) (by rw [hsc]; exact f11) (by decide) (by decide)
  have hfree : X.mg "range" = none := g.free _ (by decide +kernel)
  have hgl : Gl X "range" := by show X.env.scope.names.lookup _ = _; rw [g.hs]; exact f7
  have hi : PIH X (.Name "k" p6) (.Call (.Name "range" p7) [.Constant (.int 5) j6 p8] [] p9) (iR X.K EA W C .range1 [.cst (.int 5)]) := pi_r1H hgl hfree (snd_cst pe_int (fun _ _ _ => rfl) (fun _ _ => rfl)) (fun _ _ => rfl)
  have sto := storeB_of (c := blkCc (eC scope) sc2) f12
  have el : ∀ (s : Shared) (H : Hp) (cc : Addr) (cl : List (Str × Addr)) (fp : List Addr), Snd (blkH X s H sc2 (compEnvC sc2 cl cc X.env) fp q) EA WF C (.Subscript (.List [.Constant (.str "refused") j1 q1, .Constant (.str "large") j2 q2, .Constant (.str "missing") j3 q3, .Constant (.str "paper") j4 q4, .Constant (.str "form") j5 q5] p3) (.Name "k" p4) p5) eElt := fun s H cc cl fp => by
    refine snd_idx (by show X.A.units + 1 < cLine; omega) (snd_lst ?_) (vk s H cc cl fp) (plainIx_of rfl)
    exact .cons (snd_strc (by decide +kernel)) (fun _ _ => rfl) (.cons (snd_strc (by decide +kernel)) (fun _ _ => rfl) (.cons (snd_strc (by decide +kernel)) (fun _ _ => rfl) (.cons (snd_strc (by decide +kernel)) (fun _ _ => rfl) (.cons (snd_strc (by decide +kernel)) (fun _ _ => rfl) .nil))))
  have base := ps_setLcH (i := 2) (y := "names") (py := p1) (ifs := [.Subscript (.Name "kinds" pA) (.Name "k" pB) pC]) (pos := p2) (spos := spos) (te := tRaw X.K EA WF (ev C false eElt)) (tt := tCs X.K EA WF C [.idx (.var 1) (.var 3)]) (g := gT X.K (.name 3)) (own := [(("k" : Str), 3)]) g.hot g.hq nd (by rw [g.hN]; rfl) (by rw [g.hs]; exact f5)
    (sw_true (by rw [g.hs]; exact f1) (by rw [g.hs]; exact f5) hl f14) hi (by rw [g.hN, g.hs]; exact f13)
    (fun s H cc cl fp => pgT_name nd (by show X.N[3]? = _; rw [g.hN]; rfl) (by rw [hsc]; exact sto.1) (sto.2.1.imp (fun z => z) fun z => by rw [hsc]; exact z))
    (fun s H cc cl fp => cs_one (snd_idx (by show X.A.units + 1 < cLine; omega) (vks s H cc cl fp) (vk s H cc cl fp) (plainIx_of rfl)))
    (fun s H cc cl fp => (el s H cc cl fp).v)
    (fun _ => rfl)
  refine PS.imp' base fun D σ H h => ?_
  refine lcp_red (fun i hi => hi) (asg_name (raw := rawLc C [3] (.name 3) .range1 [.cst (.int 5)] [.idx (.var 1) (.var 3)] eElt) ?_)
  have e : ∀ ρ, ev C false (.lcp [3] (.name 3) .range1 [.cst (.int 5)] [.idx (.var 1) (.var 3)] eElt) ρ = rawLc C [3] (.name 3) .range1 [.cst (.int 5)] [.idx (.var 1) (.var 3)] eElt ρ := fun ρ => rfl
  simpa only [tS, exS, eS2, asgT, e] using h
end
end Cw
set_option Elab.async false
set_option linter.all false
set_option maxRecDepth 100000
set_option maxHeartbeats 4000000
set_option autoImplicit false
/-! Cw, part Hd: _law_error as a whole -/
namespace Cw
open PySem L2 L2H

section
variable {X : Cx} {EA : Nat → Addr} {W : WX} {C : CallSem} {scope sc2 : Scope} {q : Addr × Obj}
theorem e_S3 {r1 r2 r3 r4 r5 r6 r7 r8 r9 rA rB rC rD rE rF rG rH : Pos} {j1 j2 j3 j4 : Nat} (g : ECx EA X scope sc2 q W) : SndS X EA W C (.Return (some (.Subscript (.List [.Constant (.str "odd") j1 r1, .Subscript (.BinOp (.Name "names" r2) .Add (.List [.Constant (.str "") j2 r3] r4) r5) (.Constant (.int 0) j3 r6) r7] r8)
    (.Call (.Name "int" r9) [.Compare (.Call (.Name "len" rA) [.Name "names" rB] [] rC) [.Eq] [.Constant (.int 1) j4 rD] rE] [] rF) rG)) rH) eS3 := by
  obtain ⟨f1, f2, f3, f4, f5, f6, f7, f8, f9, f10, f11, f12, f13, f14⟩ := g.facts
  have hu := g.un
  have vn : ∀ {pp : Pos}, Snd X EA W C (.Name "names" pp) (.var 2) := fun {pp} => snd_var (by rw [g.hN]; rfl) (by rw [g.hs]; exact f4) (by decide) (by decide)
  have gl : Gl X "len" := by show X.env.scope.names.lookup _ = _; rw [g.hs]; exact f8
  have gi : Gl X "int" := by show X.env.scope.names.lookup _ = _; rw [g.hs]; exact f9
  refine ss_ret ?_ (fun i z => nomatch z)
  refine snd_idx (by omega) (snd_lst (.cons (snd_strc (by decide +kernel)) (fun _ _ => rfl) (.cons ?_ (fun _ _ => rfl) .nil))) ?_ (plainIx_of rfl)
  · exact snd_idx (by omega) (snd_bin (op := .add) vn (snd_lst (.cons (snd_strc (by decide +kernel)) (fun _ _ => rfl) .nil))) (snd_cst pe_int (fun _ _ _ => rfl) (fun _ _ => rfl)) (plainIx_of rfl)
  · exact snd_bltR (bi := .int) call_int1 rfl gi (g.free _ (by decide +kernel)) rfl (by decide) (by decide) (snd_cmp (op := .eq) (by omega) (snd_bltR (bi := .len) (call_len.or call_lenD) rfl gl (g.free _ (by decide +kernel)) rfl (by decide) (by decide) vn (fun _ _ => rfl)) (snd_cst pe_int (fun _ _ _ => rfl) (fun _ _ => rfl)) rfl) (fun _ _ => rfl)
/-- the five classes, as the text holds them -/
structure EExc (EA : Nat → Addr) (K : PySem.W.Frag) (mg : Str → Option Value) (scope : Scope) : Prop where
  at_ : ∀ (i : Nat) x, (["NotAllowed", "TooLarge", "Missing", "BadPaper", "BadForm"] : List Str)[i]? = some x → mg x = some (.ref (EA i)) ∧ scope.names.lookup x = some .globalImplicit
  kit : ∀ i j : Nat, i < 5 → j < 5 → PySem.W.kitOne K (.ref (EA i)) (.ref (EA j)) = some (decide (i = j))
  cls : ∀ i : Nat, i < 5 → ExcC K (EA i)
def isis (pos : List (Pos × Pos × Pos × Pos)) : List Expr := (pos.zip (["NotAllowed", "TooLarge", "Missing", "BadPaper", "BadForm"] : List Str)).map fun y => .Call (.Name "isinstance" y.1.1) [.Name "e" y.1.2.1, .Name y.2 y.1.2.2.1] [] y.1.2.2.2
def bools (c : Nat) : List PV := [.bl (decide (c = 0)), .bl (decide (c = 1)), .bl (decide (c = 2)), .bl (decide (c = 3)), .bl (decide (c = 4))]
theorem e_run (c : Nat) (h : c < 5) : ∃ ρ', exSs C [eS2, eS3] [none, some (.own, .lst (bools c)), none, none] = .ok (.ret false (errStr c)) ρ' := by
  match c, h with
  | 0, _ => exact ⟨_, rfl⟩
  | 1, _ => exact ⟨_, rfl⟩
  | 2, _ => exact ⟨_, rfl⟩
  | 3, _ => exact ⟨_, rfl⟩
  | 4, _ => exact ⟨_, rfl⟩
/-- kinds = [isinstance(e, ..), ..] -/
theorem e_S1 {cn : Nat} {a0 a1 a2 a3 a4 b0 b1 b2 b3 b4 c0 c1 c2 c3 c4 d0 d1 d2 d3 d4 p1 p2 sp : Pos} (g : ECx EA X scope sc2 q W) (E : EExc EA X.K X.mg scope) (hc : cn < 5) (hz : Zc (.ref (EA cn)) none q.2) (hf : ∃ vs, q.2.data = .fields vs) :
    PS X (.Assign [.Name "kinds" p1] (.List [.Call (.Name "isinstance" a0) [.Name "e" b0, .Name "NotAllowed" c0] [] d0, .Call (.Name "isinstance" a1) [.Name "e" b1, .Name "TooLarge" c1] [] d1, .Call (.Name "isinstance" a2) [.Name "e" b2, .Name "Missing" c2] [] d2,
      .Call (.Name "isinstance" a3) [.Name "e" b3, .Name "BadPaper" c3] [] d3, .Call (.Name "isinstance" a4) [.Name "e" b4, .Name "BadForm" c4] [] d4] p2) sp)
      (tAsg (tLst (tCons (tIs q (decide (cn = 0))) (tCons (tIs q (decide (cn = 1))) (tCons (tIs q (decide (cn = 2))) (tCons (tIs q (decide (cn = 3))) (tCons (tIs q (decide (cn = 4))) tNil)))))) (gName 1)) := by
  obtain ⟨f1, f2, f3, f4, f5, f6, f7, f8, f9, f10, f11, f12, f13, f14⟩ := g.facts
  have one : ∀ {i : Nat} {x : Str} {pa pb pc pd : Pos}, i < 5 → (["NotAllowed", "TooLarge", "Missing", "BadPaper", "BadForm"] : List Str)[i]? = some x → (x == ("__debug__" : Str)) = false → PE X (.Call (.Name "isinstance" pa) [.Name "e" pb, .Name x pc] [] pd) (tIs q (decide (cn = i))) := fun {i x pa pb pc pd} hi hx hd => by
    obtain ⟨m1, m2⟩ := E.at_ i x hx
    exact pe_isH g.hq (E.cls cn hc) hz hf (by rw [g.hN]; rfl) (by rw [g.hs]; exact f2) (by show X.env.scope.names.lookup _ = _; rw [g.hs]; exact f6) (g.free _ (by decide +kernel)) (by show X.env.scope.names.lookup _ = _; rw [g.hs]; exact m2) m1 hd (E.kit cn i hc hi)
  refine ps_set (by rw [g.hN]; exact eN_nd) (by rw [g.hN]; rfl) (by rw [g.hs]; exact f3) (pe_lst (pa_cons (one (i := 0) (by decide) rfl (by decide +kernel)) (pa_cons (one (i := 1) (by decide) rfl (by decide +kernel)) (pa_cons (one (i := 2) (by decide) rfl (by decide +kernel)) (pa_cons (one (i := 3) (by decide) rfl (by decide +kernel)) (pa_cons (one (i := 4) (by decide) rfl (by decide +kernel)) pa_nil rfl) rfl) rfl) rfl) rfl)) rfl (.inl (g.hf _))
/-- behind the first row -/
theorem e_go {cn : Nat} {H : Hp} {D : Ends} (hc : cn < 5) (hQ : ∀ H', (∀ b o, H b = some o → H' b = some o) → ∀ v, (∀ K' F, Rep K' F H' (errStr cn) v) → D.rt v H') :
    tAsg (tLst (tCons (tIs q (decide (cn = 0))) (tCons (tIs q (decide (cn = 1))) (tCons (tIs q (decide (cn = 2))) (tCons (tIs q (decide (cn = 3))) (tCons (tIs q (decide (cn = 4))) tNil)))))) (gName 1) { D with nx := tS X.K EA W (exSs C [eS2, eS3]) D } (L2.start eN [.ref q.1]) H := by
  refine ⟨rfl, rfl, rfl, rfl, rfl, (by show 5 ≤ sizeLine; decide), fun l hl => ?_⟩
  obtain ⟨ρ', er⟩ := e_run (C := C) cn hc
  have g : ∀ {i : Nat} {s : Stt} {d : PV}, ([none, some (Stt.own, PV.lst (bools cn)), none, none] : Rho)[i]? = some (some (s, d)) → i = 1 ∧ s = .own ∧ d = .lst (bools cn) := fun {i s d} h => by
    match i, h with
    | 0, h => simp at h
    | 1, h => simp at h; exact ⟨rfl, h.1.symm, h.2.symm⟩
    | 2, h => simp at h
    | 3, h => simp at h
    | n + 4, h => simp at h
  have own : OwnAt X.K (fun _ => False) (upd H l (.lst [.bl (decide (cn = 0)), .bl (decide (cn = 1)), .bl (decide (cn = 2)), .bl (decide (cn = 3)), .bl (decide (cn = 4))])) (.lst (bools cn)) l :=
    ⟨fun z => z, _, upd_same, ⟨_, _, rfl, rfl, _, _, rfl, rfl, _, _, rfl, rfl, _, _, rfl, rfl, _, _, rfl, rfl, rfl⟩⟩
  refine ⟨fun _ => False, [none, some (.own, .lst (bools cn)), none, none], ⟨rfl, fun _ z => z.elim, fun i s d h m => ?_, fun i s d h m => ?_, fun i j s d s' d' a h m h' m' _ _ => ?_⟩, ?_⟩
  · obtain ⟨_, rfl, _⟩ := g h; cases m
  · obtain ⟨rfl, rfl, rfl⟩ := g h; exact ⟨l, rfl, own⟩
  · obtain ⟨rfl, _, _⟩ := g h
    obtain ⟨rfl, _, _⟩ := g h'
    rfl
  · rw [er]
    intro F' H' σ' v r' s' rv
    refine hQ H' (fun b o e => ?_) v (fun K' F => ?_)
    · have ne : b ≠ l := fun z => by subst z; rw [hl] at e; cases e
      refine s'.fr b o (by rw [upd_ne ne]; exact e) ?_
      rintro ⟨i, s, d, h, m, hv⟩
      obtain ⟨rfl, rfl, rfl⟩ := g h
      have hv : some (some (V.ref l)) = some (some (.ref b)) := hv
      cases hv
      exact ne rfl
    · have rv : Rep X.K F' H' (errStr cn) v := rv
      match cn, hc with
      | 0, _ => exact rv
      | 1, _ => exact rv
      | 2, _ => exact rv
      | 3, _ => exact rv
      | 4, _ => exact rv
end
end Cw
set_option Elab.async false
set_option linter.all false
set_option maxRecDepth 100000
set_option maxHeartbeats 4000000
set_option autoImplicit false
/-! Cw, part He: try: .. except CountError as e: return _law_error(e) -/
namespace Cw
open PySem L2 L2H

/-- the rows of _law_error, wherever they stand -/
def ErrShape (body : List Stmt) (sc2 : Scope) : Prop := ∃ (a0 a1 a2 a3 a4 b0 b1 b2 b3 b4 c0 c1 c2 c3 c4 d0 d1 d2 d3 d4 p1 p2 sp : Pos) (u1 u2 u3 u4 u5 u6 u7 u8 u9 uA uB uC q1 q2 q3 q4 q5 uS : Pos) (i1 i2 i3 i4 i5 i6 : Nat) (r1 r2 r3 r4 r5 r6 r7 r8 r9 rA rB rC rD rE rF rG rH : Pos) (j1 j2 j3 j4 : Nat),
  body = [.Assign [.Name "kinds" p1] (.List [.Call (.Name "isinstance" a0) [.Name "e" b0, .Name "NotAllowed" c0] [] d0, .Call (.Name "isinstance" a1) [.Name "e" b1, .Name "TooLarge" c1] [] d1, .Call (.Name "isinstance" a2) [.Name "e" b2, .Name "Missing" c2] [] d2,
      .Call (.Name "isinstance" a3) [.Name "e" b3, .Name "BadPaper" c3] [] d3, .Call (.Name "isinstance" a4) [.Name "e" b4, .Name "BadForm" c4] [] d4] p2) sp,
    .Assign [.Name "names" u1] (.ListComp (.Subscript (.List [.Constant (.str "refused") i1 q1, .Constant (.str "large") i2 q2, .Constant (.str "missing") i3 q3, .Constant (.str "paper") i4 q4, .Constant (.str "form") i5 q5] u3) (.Name "k" u4) u5)
      [⟨.Name "k" u6, .Call (.Name "range" u7) [.Constant (.int 5) i6 u8] [] u9, [.Subscript (.Name "kinds" uA) (.Name "k" uB) uC], 0⟩] sc2 u2) uS,
    .Return (some (.Subscript (.List [.Constant (.str "odd") j1 r1, .Subscript (.BinOp (.Name "names" r2) .Add (.List [.Constant (.str "") j2 r3] r4) r5) (.Constant (.int 0) j3 r6) r7] r8)
    (.Call (.Name "int" r9) [.Compare (.Call (.Name "len" rA) [.Name "names" rB] [] rC) [.Eq] [.Constant (.int 1) j4 rD] rE] [] rF) rG)) rH] ∧ (u1.line == u2.line) = true
theorem fnErr {EA : Nat → Addr} {P : Program} {w : World} {K : PySem.W.Frag} {mg : Str → Option Value} {base : Heap} {k : Nat} {f : Addr} {name qual : Str} {params : Arguments} {body : List Stmt} {scope sc2 : Scope} {dV kV doc pm cdv ct oc : Value} {an od : Option Addr}
    {osl : Array (Option Value)} (lk : K.lookup f = some ⟨oc, od, .func (PySem.W.fnOf name qual params body scope dV kV doc pm an cdv ct), osl⟩) (hcd : PySem.W.codeIn K cdv qual = true) (S : FnScope eN ["e"] scope)
    (hb : eB scope sc2 = true) (free : ∀ y ∈ (["isinstance", "range", "len", "int"] : List Str), mg y = none) (E : EExc EA K mg scope) (sh : ErrShape body sc2) : FnErr EA P w K mg base (k + 1) f (PySem.W.fnOf name qual params body scope dV kV doc pm an cdv ct) "e" := by
  obtain ⟨a0, a1, a2, a3, a4, b0, b1, b2, b3, b4, c0, c1, c2, c3, c4, d0, d1, d2, d3, d4, p1, p2, sp, u1, u2, u3, u4, u5, u6, u7, u8, u9, uA, uB, uC, q1, q2, q3, q4, q5, uS, i1, i2, i3, i4, i5, i6, r1, r2, r3, r4, r5, r6, r7, r8, r9, rA, rB, rC, rD, rE, rF, rG, rH, j1, j2, j3, j4, eb, hl⟩ := sh
  refine fnErr_body lk hcd S fun A outer s H p cn Q X' hot room hz hf hc5 hQ => ?_
  have g : ECx EA (cxH (L2N.CX P w) P w K mg base eN qual scope f cdv A outer s H X' p) scope sc2 p (fun _ _ _ _ => False) := ⟨hb, rfl, rfl, fun _ => rfl, by have := room.un; show (A.deeper (PyProof.Rows.envOfC qual scope s.heap.objs.size f cdv)).units + 200 < cLine; omega, hot, List.mem_singleton.mpr rfl, free⟩
  rw [eb]
  exact ⟨_, pss_cons (e_S1 (cn := cn) g E hc5 hz hf) (ss_cons (C := fun _ _ => .bad) (e_S2 (pD := u1) g hl) (ss_cons (e_S3 g) ss_nil)), e_go hc5 hQ⟩
end Cw
set_option Elab.async false
set_option linter.all false
set_option maxRecDepth 100000
set_option maxHeartbeats 4000000
set_option autoImplicit false
/-! Cw, part Hf: the rule for try .. except .. as e: return f(e) -/
namespace Cw
open PySem L2 L2H

section
variable {X : Cx} {EA : Nat → Addr} {W : WX} {C : CallSem}
/-- what the suite is to lead to -/
def tSu (EA : Nat → Addr) (i : Nat) : Addr → Value → Option Addr → TS := fun a cls d D σ H => ∃ c, c < 5 ∧ cls = .ref (EA c) ∧ d = none ∧ σ[i]? = some (some (.ref a)) ∧ H a = none ∧ ∀ H', (∀ b o, H b = some o → H' b = some o) → ∀ v, (∀ K' F, Rep K' F H' (errStr c) v) → D.rt v H'
theorem e_suite {k i : Nat} {f a : Addr} {fd : FuncData} {oe : Obj} {cls : Value} {d : Option Addr} {pn : List (Addr × Obj)} {x y : Str} {p1 p2 p3 p4 : Pos} (G : FnErr EA X.prog X.w X.K X.mg X.base k f fd x) (room : RoomH k X.A) (hz : L2N.Zn cls d oe) (hv : ∃ vs, oe.data = .fields vs) (hN : X.N[i]? = some y) (vis : Vis X.env.scope y)
    (hd : (y == ("__debug__" : Str)) = false) (hcd : (y == ("__classdict__" : Str)) = false) (hg : Gl X "_law_error") (hm : X.mg "_law_error" = some (.ref f)) (hk : PySem.W.keepIn X.K (.ref f) = true) (hb : Binds X.K fd [x] []) :
    PSs (X.suite a ((a, oe) :: pn)) [.Return (some (.Call (.Name "_law_error" p1) [.Name y p2] [] p3)) p4] (tSu EA i a cls d) := by
  have call : PE (X.suite a ((a, oe) :: pn)) (.Call (.Name "_law_error" p1) [.Name y p2] [] p3) (fun σ H Q => ∃ c, c < 5 ∧ cls = .ref (EA c) ∧ d = none ∧ σ[i]? = some (some (.ref a)) ∧ H a = none ∧ ∀ H', (∀ b o, H b = some o → H' b = some o) → ∀ v, (∀ K' F, Rep K' F H' (errStr c) v) → Q v H') := by
    refine ⟨fun pins s σ H Q I h => ?_⟩
    obtain ⟨c, hc, rfl, rfl, at_, free, fin⟩ := h
    refine wpAny_Call_Name_kw (ld_glob I hg hm ?_ (by decide))
    have arg : PA (X.suite a ((a, oe) :: pn)) [.Name y p2] (tCons _ tNil) := pa_cons (pe_var (i := i) (pos := p2) hN vis hd hcd) pa_nil
    refine PySem.W.callWith_K (h₀ := X.base) I.ok.mod.kin hk (thn (arg.run p3 pins s σ H (fun vs H1 => vs = [.ref a] ∧ H1 = H) I ⟨.ref a, at_, rfl, rfl⟩) fun us s1 ⟨vs, H1, I1, r1, ev, eH⟩ => ⟨I1.kIn, ?_⟩) rfl rfl
    subst ev eH
    obtain ⟨u, rfl, ru⟩ := Vals.one r1
    cases ru
    have b := hb s1 [.ref a] I1.kIn rfl
    obtain ⟨vs, hvs⟩ := hv
    have P1 := I1.pin (a, oe) (List.mem_append_left _ List.mem_cons_self)
    have hot : Hot1 (X.suite a ((a, oe) :: pn)).A (a, oe) := ⟨rfl, vs, hvs, hz.2.2 vs hvs⟩
    have pin : PinOk (X.suite a ((a, oe) :: pn)).stack H1 s1 (a, oe) := ⟨P1.1, P1.2.1, fun hm => (List.mem_cons.mp (I1.stkSub a hm)).elim P1.2.2.1 P1.2.2.2.1, P1.2.2.2.2⟩
    refine wpAny_call (codeAny_mono (G.run (X.suite a ((a, oe) :: pn)).A _ s1 H1 (a, oe) c Q (fun _ _ _ => False) ⟨room.dp, room.un⟩ hot pin I1.env0 b hz.zc ⟨vs, hvs⟩ hc fin) fun r t q => ?_)
    cases r with
    | error e =>
      obtain ⟨_, _, _, _, _, _, _, _, _, _, _, _, z⟩ := q
      exact z.elim
    | ok fl =>
      cases fl with
      | ret u => exact I1.after q
      | next => exact q.elim
      | brk => exact q.elim
      | cont => exact q.elim
  exact pss_one (ps_ret call)
end
end Cw
set_option Elab.async false
set_option linter.all false
set_option maxRecDepth 100000
set_option maxHeartbeats 4000000
set_option autoImplicit false
/-! Cw, part Hg: the try statement -/
namespace Cw
open PySem L2 L2H

section
variable {X : Cx} {EA : Nat → Addr} {W : WX} {C : CallSem} {σ : L2.St} {F : FS} {H H' : Hp} {ρ : Rho}
/-- more things stand -/
theorem Rel.ext {K : PySem.W.Frag} (r : Rel K F H ρ σ) (e : ∀ b o, H b = some o → H' b = some o) : Rel K F H' ρ σ ∧ Step F H ρ σ F H' ρ σ := by
  have kp : ∀ a o, F a → H a = some o → H' a = some o := fun a o _ => e a o
  refine ⟨⟨r.len, fun a f z => ?_, fun i s d h m => ?_, fun i s d h m => ?_, r.ap⟩, ⟨fun a o h _ => e a o h, fun a h => ?_, fun _ z => z, fun _ z => .inl z, fun _ z => .inl z, fun i s d h p => ⟨rfl, s, d, h, p, .inl rfl⟩⟩⟩
  · cases q : H a with
    | none => exact r.ft a f q
    | some o => rw [e a o q] at z; cases z
  · obtain ⟨v, h1, h2⟩ := r.rd i s d h m
    exact ⟨v, h1, h2.keep (fun _ z => z) kp⟩
  · obtain ⟨a, h1, h2⟩ := r.ow i s d h m
    obtain ⟨u, q⟩ := h2.live
    exact ⟨a, h1, h2.keep (fun _ z => z) kp h2.1 ((e a u q).trans q.symm)⟩
  · cases q : H a with
    | none => rfl
    | some o => rw [e a o q] at h; cases h
theorem ss_try {k i : Nat} {f : Addr} {fd : FuncData} {x : Str} {c : Value} {b : List IS} {body : List Stmt} {np p1 p2 p3 p4 pos pos' : Pos} (G : FnErr EA X.prog X.w X.K X.mg X.base k f fd x) (room : RoomH k X.A) (hs : X.stack = X.env :: X.outer) (hf : X.env.frame = some X.env.locals) (nd : X.N.Nodup)
    (hi : X.N[i]? = some ("e" : Str)) (hl : X.env.kindOf "e" = some .local) (hc : Names X "CountError" c) (tk : Takes X W) (hex : ∀ n : Nat, n < 5 → PySem.W.exmOne X.K (.ref (EA n)) c = some true)
    (hg : Gl X "_law_error") (hm : X.mg "_law_error" = some (.ref f)) (hk : PySem.W.keepIn X.K (.ref f) = true) (hb : Binds X.K fd [x] [])
    (hbody : ∀ (W' : WX) (pn : List (Addr × Obj)) (xe : Value → Shared → Prop), Takes (X.tr pn xe) W' → PassesOwn (model X.prog X.w) X.A X.env xe → SndSs (X.tr pn xe) EA W' C body b) :
    SndS X EA W C (.Try body [.ExceptHandler (some (.Name "CountError" np)) (some "e") [.Return (some (.Call (.Name "_law_error" p1) [.Name "e" p2] [] p3)) p4] pos'] [] [] pos) (.tryErr i b) := by
  refine PS.imp' (L2N.ps_try_as (ts := tSu EA i) (tb := fun W' => tS X.K EA W' (exSs C b)) hs hf nd hi hl hc tk hbody fun a oe cls d pn hz hv => e_suite G room hz hv hi (.inl hl) (by decide) (by decide) hg hm hk hb) fun D σ H h => ?_
  obtain ⟨F, ρ, r, h⟩ := h
  refine ⟨F, ρ, r, ?_⟩
  simp only [exS] at h
  cases e : exSs C b ρ with
  | bad => rw [e] at h; exact h
  | ok fl ρ1 =>
    rw [e] at h
    cases fl <;> exact h
  | exc cn xx ρ1 =>
    rw [e] at h
    dsimp only at h
    split at h
    · rename_i q
      rintro F' H' σ' cls dd r' s' ⟨rfl, rfl, _⟩
      refine ⟨true, hex cn q.1, fun _ a ha => ⟨cn, q.1, rfl, rfl, List.getElem?_set_self (by rw [← r'.len]; exact q.2), ha, fun H2 ex v rv => ?_⟩, fun z => nomatch z⟩
      obtain ⟨r2, s2⟩ := r'.ext ex
      exact h F' H2 σ' v r2 (s'.trans s2) (rv _ _)
    · exact h.elim
end
end Cw
set_option Elab.async false
set_option linter.all false
set_option maxRecDepth 100000
set_option maxHeartbeats 4000000
set_option autoImplicit false
/-! Cw, part Zb: translation of statements -/
namespace Cw
open PySem L2

def lcScope : Expr → Option Scope
  | .ListComp _ _ s _ => some s
  | .SetComp _ _ s _ => some s
  | .DictComp _ _ _ s _ => some s
  | _ => none
/-- is the new list stored from within the block -/
def swB (c : Cc) (e : Expr) (x : Str) (p : Pos) : Bool := match lcScope e with
  | none => false
  | some s => (c.sc.kind == .function) && (c.sc.names.lookup x == some .local) && (p.line == e.pos.line) && !(s.names.any fun (n, k) => n == x && (k == .local || k == .cell))
/-- two plain local names from two values -/
def parB (c : Cc) (x y : Str) (px py : Pos) (a b : Expr) : Bool := (c.sc.kind == .function) && (c.sc.names.lookup x == some .local) && (c.sc.names.lookup y == some .local) && (py.line == px.line) && !(x == y) && !isStar a && !isStar b && !(foldedForSure 8 a && foldedForSure 8 b) && !(constantsAlone 8 a && constantsAlone 8 b)
structure Sx where
  excs : List (Str × Nat)
def cAsgN (c : Cc) (n : Nat) (x : Str) (p : Pos) (e : Expr) : Option IS := if (c.sc.kind == .function) = false then none else (slotOf c x).bind fun i =>
  if swB c e x p = true then (match e with
    | .ListComp _ _ _ _ => (cE n c e).map fun ie => .asg (.name i) ie
    | _ => none)
  else if storeB c x = true then (cE n c e).map fun ie => .asg (.name i) ie else none
def isTupOrList : Expr → Bool
  | .Tuple _ _ _ => true
  | .List _ _ => true
  | _ => false
def cPar (c : Cc) (n : Nat) (x y : Str) (px py : Pos) (a b : Expr) : Option IS := if parB c x y px py a b = true ∧ decide c.N.Nodup = true then (slotOf c x).bind fun i => (slotOf c y).bind fun j => if i = j then none else (cE n c a).bind fun ia => (cE n c b).map fun ib => .asgs [i, j] [ia, ib] else none
def cAsg (c : Cc) (n : Nat) (t e : Expr) : Option IS := match t with
  | .Name x p => cAsgN c n x p e
  | .Tuple ts _ _ => (match e with
    | .Tuple es _ _ => (match ts, es with
      | [.Name x px, .Name y py], [a, b] => cPar c n x y px py a b
      | _, _ => none)
    | e => if isLc e = true ∨ isTupOrList e = true then none else (cT c n t).bind fun tg => match tg with
      | .tup tgs => (cE n c e).map fun ie => .asg (.tup tgs) ie
      | _ => none)
  | .Subscript (.Name x _) ix _ => if isLc e = true ∨ isSlice ix = true then none else (slotOf c x).bind fun i => (cE n c ix).bind fun ii => (cE n c e).map fun ie => .seti i ii ie
  | _ => none
def cRaise (c : Cc) : Expr → Option IS
  | .Call (.Name x _) [.Constant (.str _) _ _] [] _ => if glB c x = true then (c.T.excs.findIdx? (· == x)).bind fun i => if c.T.excs[i]? = some x then some (.raise i) else none else none
  | _ => none
def isVarE : IE → Bool
  | .var _ => true
  | _ => false
def cRet (c : Cc) (n : Nat) : Expr → Option IS
  | .Name x _ => (slotOf c x).map fun i => .ret (.var i)
  | e => (cE n c e).bind fun ie => if isVarE ie = true then none else some (.ret ie)
/-- several statements -/
def cSL (f : Stmt → Option IS) : List Stmt → Option (List IS)
  | [] => some []
  | s :: ss => (f s).bind fun i => (cSL f ss).map fun t => i :: t
/-- try: .. except CountError as e: return _law_error(e) -/
def tryB (c : Cc) (t n f v : Str) : Bool := t == ("CountError" : Str) && n == ("e" : Str) && f == ("_law_error" : Str) && v == ("e" : Str) && glB c "CountError" && glB c "_law_error" && !c.T.excs.isEmpty && (c.sc.names.lookup ("e" : Str) == some .local)
def cS : Nat → Cc → Stmt → Option IS
  | 0, _, _ => none
  | n + 1, c, st => match st with
    | .Expr e _ => if isLc e = true then none else (cE n c e).map .ex
    | .Assign ts e _ => (match ts with
      | [t] => cAsg c n t e
      | _ => none)
    | .AugAssign t op e _ => (match t with
      | .Name x _ => (slotOf c x).bind fun i => (bopOf op).bind fun o => if storeB c x = true ∧ astB1 o = true then (cE n c e).map fun ie => .aug i o ie else none
      | _ => none)
    | .If t a b _ => (cE n c t).bind fun it => (cSL (cS n c) a).bind fun ia => (cSL (cS n c) b).map fun ib => .ifs it ia ib
    | .While t b els _ => if els.isEmpty = true then (cE n c t).bind fun it => (cSL (cS n c) b).map fun ib => .whl it ib else none
    | .For tg it b els _ => if els.isEmpty = true then (cIt c (cE n c) tg it).bind fun q => (cT c n tg).bind fun t => (cSL (cS n c) b).map fun ib => .for_ t q.1 q.2 ib else none
    | .Return o _ => (match o with
      | none => some .retN
      | some e => cRet c n e)
    | .Raise o cause _ => (match o, cause with
      | some e, none => cRaise c e
      | _, _ => none)
    | .Try b hs els fin _ => (match hs, els, fin with
      | [.ExceptHandler (some (.Name t _)) (some x) [.Return (some (.Call (.Name f _) [.Name v _] [] _)) _] _], [], [] => if tryB c t x f v = true then (slotOf c "e").bind fun i => (cSL (cS n c) b).map fun ib => .tryErr i ib else none
      | _, _, _ => none)
    | .Pass _ => some .pass
    | .Break _ => some .brk
    | .Continue _ => some .cnt
    | _ => none

/-- an own exception class without an __init__ of its own, as the text holds it -/
structure ExcK (K : PySem.W.Frag) (mg : Str → Option Value) (EA : Nat → Addr) (i : Nat) (x : Str) : Prop where
  ex : ∃ (bm : List Value) (B newId initId : String), ExcBaseFacts B newId initId bm ∧ PySem.W.excIn K (EA i) bm newId = true
  at_ : mg x = some (.ref (EA i))
  kp : PySem.W.keepIn K (.ref (EA i)) = true
  sub : PySem.W.subIn K (.ref (EA i)) (.type "BaseException") = some true
  ty : PySem.W.typeIn K (.ref (EA i)) = some (.type "type")

/-- what stands behind the handlers -/
structure ErrK (EA : Nat → Addr) (K : PySem.W.Frag) (mg : Str → Option Value) : Prop where
  ex : ∃ (f : Addr) (fd : FuncData) (x : Str) (c : Value), mg "_law_error" = some (.ref f) ∧ PySem.W.keepIn K (.ref f) = true ∧ Binds K fd [x] [] ∧ mg "CountError" = some c ∧ (∀ n : Nat, n < 5 → PySem.W.exmOne K (.ref (EA n)) c = some true) ∧
    ∀ (P : Program) (w : World) (base : Heap) (k : Nat), FnErr EA P w K mg base (k + 1) f fd x

section
variable {T : Tab} {EA : Nat → Addr} {X : Cx} {W : WX} {C : CallSem} {k : Nat} {c : Cc}
theorem blk_fn (g : Ctx EA c k C X W) (hk : c.sc.kind = .function) : X.env.blockKind = .function := by
  unfold Env.blockKind; rw [g.1.hs, hk]; rfl
theorem kind_at (g : Ctx EA c k C X W) (x : Str) : X.env.kindOf x = c.sc.names.lookup x := by
  show X.env.scope.names.lookup x = _; rw [g.1.hs]
theorem sw_of (hk : c.sc.kind = .function) (g : Ctx EA c k C X W) {e : Expr} {x : Str} {p : Pos} {l : Nat} : swapsWith e (some (.Name x p)) l X.env = pure (swB c e x p) := by
  have hb := blk_fn g hk
  have hl := kind_at g x
  unfold swB
  cases e <;> first | rfl | (unfold swapsWith; simp only [hb, hl, hk, lcScope])
theorem sw_no {e : Expr} {t : Option Expr} {l : Nat} {env : PySem.Env} (h : ¬ isLc e = true) : swapsWith e t l env = pure false := by
  cases e <;> first | rfl | exact absurd rfl h
theorem asg_name_ok (g : Ctx EA c k C X W) {n : Nat} {x : Str} {p pos : Pos} {e : Expr} {is : IS} (h : cAsgN c n x p e = some is) : SndS X EA W C (.Assign [.Name x p] e pos) is := by
  unfold cAsgN at h
  split at h
  · cases h
  rename_i hk
  replace hk := fnk hk
  rw [Option.bind_eq_some_iff] at h
  obtain ⟨i, h1, h⟩ := h
  obtain ⟨e1, e2, e3⟩ := slot_of h1
  have hN : X.N[i]? = some x := by rw [g.1.hN]; exact e1
  have nd : X.N.Nodup := by rw [g.1.hN]; exact g.1.nd
  have sw := sw_of (l := pos.line) hk g (e := e) (x := x) (p := p)
  split at h
  · rename_i hsw
    rw [hsw] at sw
    have hloc : X.env.scope.names.lookup x = some .local := by
      rw [g.1.hs]
      unfold swB at hsw
      split at hsw
      · cases hsw
      · simp only [Bool.and_eq_true, beq_iff_eq] at hsw
        exact hsw.1.1.2
    split at h
    · rename_i elt gens scope lp
      rw [Option.map_eq_some_iff] at h
      obtain ⟨ie, h2, rfl⟩ := h
      cases n with
      | zero => cases h2
      | succ n =>
        unfold cE at h2
        replace h2 : cComp c n (cE n) elt gens scope = some ie := h2
        unfold cComp at h2
        split at h2
        · split at h2
          · rename_i ea
            subst ea
            rw [Option.map_eq_some_iff] at h2
            obtain ⟨r, h3, rfl⟩ := h2
            have q := cLc1_ok (fun c => cE_ok n c) h3 g
            exact ss_setLc q.calm q.nd hN hloc sw q.hi q.ok q.ids q.hg q.ht q.he fun x => q.hs _ x
          · cases h2
        · split at h2
          · rename_i ea
            obtain ⟨rfl, rfl, e3⟩ := ea
            rw [List.isEmpty_iff] at e3
            subst e3
            rw [Option.map_eq_some_iff] at h2
            obtain ⟨r, h3, rfl⟩ := h2
            have q := cLc2_ok (fun c => cE_ok n c) h3 g
            exact ss_setLc2 q.calm q.nd hN hloc sw q.hi q.ok q.ids q.ids2 q.vs1 q.nl q.hg q.hi2 q.hg2 q.ht2 q.he (fun x => q.hs _ x) q.hs2
          · cases h2
        · cases h2
    · cases h
  · rename_i hsw
    have hsw : swB c e x p = false := by simpa using hsw
    rw [hsw] at sw
    split at h
    · rename_i hst
      rw [Option.map_eq_some_iff] at h
      obtain ⟨ie, h2, rfl⟩ := h
      obtain ⟨s1, s2, s3⟩ := storeB_of hst
      exact ss_set nd hN (by rw [g.1.hs]; exact s1) (by rw [g.1.hs, g.1.hf]; exact s2) (cE_ok n c _ _ h2 X W g) sw
    · cases h
theorem par_of (g : Ctx EA c k C X W) {x y : Str} {px py pt pt2 : Pos} {kt k2 : Nat} {a b : Expr} (h : parB c x y px py a b = true) : swappedStores [.Tuple [.Name x px, .Name y py] kt pt] (.Tuple [a, b] k2 pt2) X.env = pure (some [x, y]) ∧ c.sc.names.lookup x = some .local ∧ c.sc.names.lookup y = some .local ∧ ¬ isStar a = true ∧ ¬ isStar b = true := by
  unfold parB at h
  simp only [Bool.and_eq_true, beq_iff_eq, Bool.not_eq_true'] at h
  obtain ⟨⟨⟨⟨⟨⟨⟨⟨h1, h2⟩, h3⟩, h4⟩, h5⟩, h6⟩, h7⟩, h8⟩, h9⟩ := h
  have hk : c.sc.kind = .function := h1
  have hb := blk_fn g hk
  have hx := (kind_at g x).trans h2
  have hy := (kind_at g y).trans h3
  refine ⟨?_, h2, h3, by rw [h6]; exact Bool.false_ne_true, by rw [h7]; exact Bool.false_ne_true⟩
  have hyx : (y == x) = false := by
    rw [beq_eq_false_iff_ne] at h5 ⊢
    exact fun z => h5 z.symm
  have hd : ([x, y] : List Str).eraseDups.length = 2 := by
    simp [List.eraseDups, List.eraseDupsBy, List.eraseDupsBy.loop, hyx]
  unfold swappedStores
  simp only [hb, hx, hy, Expr.pos]
  simp [hd, h4, h8, h9, List.filterMap, hx, hy]
  intro q
  exfalso
  rcases q with q | q
  · cases a <;> first | (cases q; done) | (cases h6; done)
  · cases b <;> first | (cases q; done) | (cases h7; done)
theorem swS_no {t e : Expr} {l : Nat} {env : PySem.Env} (h : ¬ isLc e = true) : swapsWithSole [t] e l env = pure false := sw_no h
theorem stores_no {t e : Expr} {env : PySem.Env} (h : ¬ isTupOrList e = true) : swappedStores [t] e env = pure none := by
  cases e <;> first | exact absurd rfl h | (cases t <;> rfl)
theorem storesS_no {o i e : Expr} {p : Pos} {env : PySem.Env} : swappedStores [.Subscript o i p] e env = pure none := by
  cases e <;> rfl
theorem asg_ok (g : Ctx EA c k C X W) {n : Nat} {t e : Expr} {pos : Pos} {is : IS} (h : cAsg c n t e = some is) : SndS X EA W C (.Assign [t] e pos) is := by
  have hu := ctx_u g
  unfold cAsg at h
  split at h
  · exact asg_name_ok g h
  · rename_i ts kt pt
    split at h
    · rename_i es k2 pt2
      split at h
      · rename_i x px y py a b
        unfold cPar at h
        split at h
        · rename_i q
          obtain ⟨q1, q2, q3, q4, q5⟩ := par_of (pt := pt) (pt2 := pt2) (kt := kt) (k2 := k2) g q.1
          rw [Option.bind_eq_some_iff] at h
          obtain ⟨i, h1, h⟩ := h
          rw [Option.bind_eq_some_iff] at h
          obtain ⟨j, h2, h⟩ := h
          split at h
          · cases h
          · rename_i hij
            rw [Option.bind_eq_some_iff] at h
            obtain ⟨ia, h3, h⟩ := h
            rw [Option.map_eq_some_iff] at h
            obtain ⟨ib, h4, rfl⟩ := h
            exact ss_par g.1.calm (by rw [g.1.hN]; exact g.1.nd) (by rw [g.1.hN]; exact (slot_of h1).1) (by rw [g.1.hN]; exact (slot_of h2).1) hij (by rw [g.1.hs]; exact q2) (by rw [g.1.hs]; exact q3)
              (cE_ok n c _ _ h3 X W g) (noStar_of q4) (cE_ok n c _ _ h4 X W g) (noStar_of q5) q1
        · cases h
      · cases h
    · split at h
      · cases h
      · rename_i q
        rw [not_or] at q
        rw [Option.bind_eq_some_iff] at h
        obtain ⟨tg, h1, h⟩ := h
        split at h
        · rw [Option.map_eq_some_iff] at h
          obtain ⟨ie, h2, rfl⟩ := h
          exact ss_asg (cE_ok n c _ _ h2 X W g) (cT_ok g h1) (swS_no q.1) (stores_no q.2) rfl
        · cases h
  · rename_i x p ix p2
    split at h
    · cases h
    · rename_i q
      rw [not_or] at q
      rw [Option.bind_eq_some_iff] at h
      obtain ⟨i, h1, h⟩ := h
      rw [Option.bind_eq_some_iff] at h
      obtain ⟨ii, h2, h⟩ := h
      rw [Option.map_eq_some_iff] at h
      obtain ⟨ie, h3, rfl⟩ := h
      obtain ⟨e1, e2, e3⟩ := slot_of h1
      obtain ⟨d1, d2, _⟩ := dunder_ne e3
      refine ss_seti (by omega) (by rw [g.1.hN]; exact e1) (by rw [g.1.hs]; exact e2) d1 d2 (cE_ok n c _ _ h2 X W g) (cE_ok n c _ _ h3 X W g) (fun v => ?_) (swS_no q.1) storesS_no rfl
      have hs := q.2
      cases ix <;> first | rfl | exact absurd rfl hs
  · cases h
theorem raise_ok (exs : ∀ i x, c.T.excs[i]? = some x → ExcK X.K X.mg EA i x) (g : Ctx EA c k C X W) {e : Expr} {pos : Pos} {is : IS} (h : cRaise c e = some is) : SndS X EA W C (.Raise (some e) none pos) is := by
  unfold cRaise at h
  split at h
  · split at h
    · rename_i hg
      rw [Option.bind_eq_some_iff] at h
      obtain ⟨i, _, h⟩ := h
      split at h
      · rename_i q
        cases h
        have ek := exs _ _ q
        obtain ⟨bm, B, newId, initId, F, hq⟩ := ek.ex
        exact ss_raise g.1.calm g.2 (L2N.pmk_own F hq ek.at_ ek.kp (raises_own ek.sub ek.ty) (ctx_gl g hg) (dunder_ne (glB_of hg).2).1)
      · cases h
    · cases h
  · cases h
theorem ret_ok (g : Ctx EA c k C X W) {n : Nat} {e : Expr} {pos : Pos} {is : IS} (h : cRet c n e = some is) : SndS X EA W C (.Return (some e) pos) is := by
  unfold cRet at h
  split at h
  · rw [Option.map_eq_some_iff] at h
    obtain ⟨i, h1, rfl⟩ := h
    obtain ⟨e1, e2, e3⟩ := slot_of h1
    obtain ⟨d1, d2, _⟩ := dunder_ne e3
    exact ss_retV (by rw [g.1.hN]; exact e1) (by rw [g.1.hs]; exact e2) d1 d2
  · rw [Option.bind_eq_some_iff] at h
    obtain ⟨ie, h1, h⟩ := h
    split at h
    · cases h
    · rename_i hv
      cases h
      exact ss_ret (cE_ok n c _ _ h1 X W g) fun i z => by subst z; exact hv rfl
theorem sl_ok {f : Stmt → Option IS} (hf : ∀ st is, f st = some is → SndS X EA W C st is) : ∀ {ss : List Stmt} {iss : List IS}, cSL f ss = some iss → SndSs X EA W C ss iss
  | [], iss, h => by cases h; exact ss_nil
  | s :: ss, iss, h => by
    unfold cSL at h
    rw [Option.bind_eq_some_iff] at h
    obtain ⟨i, h1, h⟩ := h
    rw [Option.map_eq_some_iff] at h
    obtain ⟨t, h2, rfl⟩ := h
    exact ss_cons (hf _ _ h1) (sl_ok hf h2)
theorem cS_ok (n : Nat) : ∀ {X : Cx} {W : WX} (_ : ∀ i x, c.T.excs[i]? = some x → ExcK X.K X.mg EA i x) (_ : c.T.excs ≠ [] → ErrK EA X.K X.mg) (_ : k ≠ 0) (_ : X.stack = X.env :: X.outer) (_ : X.env.frame = some X.env.locals) (_ : Ctx EA c k C X W) (_ : PassesOwn (model X.prog X.w) X.A X.env X.xe) (st : Stmt) (is : IS), cS n c st = some is → SndS X EA W C st is := by
  induction n with
  | zero => intro X W _ _ _ _ _ _ _ st is h; cases h
  | succ n ih0 =>
    intro X W exs errs hk0 hsk hfr g po st is h
    have ih := ih0 exs errs hk0 hsk hfr g po
    have he := fun e ie (q : cE n c e = some ie) => cE_ok n c e ie q X W g
    unfold cS at h
    split at h
    · split at h
      · cases h
      · rename_i hl
        rw [Option.map_eq_some_iff] at h
        obtain ⟨ie, h1, rfl⟩ := h
        exact ss_ex (he _ _ h1) (sw_no hl)
    · split at h
      · exact asg_ok g h
      · cases h
    · split at h
      · rw [Option.bind_eq_some_iff] at h
        obtain ⟨i, h1, h⟩ := h
        rw [Option.bind_eq_some_iff] at h
        obtain ⟨o, h2, h⟩ := h
        split at h
        · rename_i q
          rw [Option.map_eq_some_iff] at h
          obtain ⟨ie, h3, rfl⟩ := h
          obtain ⟨s1, s2, s3⟩ := storeB_of q.1
          rw [bop_of h2]
          exact ss_aug q.2 (by rw [g.1.hN]; exact g.1.nd) (by rw [g.1.hN]; exact (slot_of h1).1) (by rw [g.1.hs]; exact s1) (by rw [g.1.hs, g.1.hf]; exact s2) (he _ _ h3)
        · cases h
      · cases h
    · rw [Option.bind_eq_some_iff] at h
      obtain ⟨it, h1, h⟩ := h
      rw [Option.bind_eq_some_iff] at h
      obtain ⟨ia, h2, h⟩ := h
      rw [Option.map_eq_some_iff] at h
      obtain ⟨ib, h3, rfl⟩ := h
      exact ss_if (he _ _ h1) (sl_ok ih h2) (sl_ok ih h3)
    · split at h
      · rename_i q
        rw [List.isEmpty_iff] at q
        subst q
        rw [Option.bind_eq_some_iff] at h
        obtain ⟨it, h1, h⟩ := h
        rw [Option.map_eq_some_iff] at h
        obtain ⟨ib, h3, rfl⟩ := h
        exact ss_whl po (he _ _ h1) (sl_ok ih h3)
      · cases h
    · split at h
      · rename_i q
        rw [List.isEmpty_iff] at q
        subst q
        rw [Option.bind_eq_some_iff] at h
        obtain ⟨⟨ik, its⟩, h1, h⟩ := h
        rw [Option.bind_eq_some_iff] at h
        obtain ⟨t, h2, h⟩ := h
        rw [Option.map_eq_some_iff] at h
        obtain ⟨ib, h3, rfl⟩ := h
        obtain ⟨q1, q2, _⟩ := cIt_ok (cE_ok n c) h1 g
        exact ss_for po g.1.calm q1 (cT_ok g h2) (sl_ok ih h3) fun x => q2 _ x
      · cases h
    · split at h
      · cases h; exact ss_retN
      · exact ret_ok g h
    · split at h
      · exact raise_ok exs g h
      · cases h
    · split at h
      · split at h
        · rename_i t0 n0 f0 v0 q
          unfold tryB at q
          simp only [Bool.and_eq_true, beq_iff_eq] at q
          obtain ⟨⟨⟨⟨⟨⟨⟨q1, q2⟩, q3⟩, q4⟩, q5⟩, q6⟩, q7⟩, q8⟩ := q
          subst q1 q2 q3 q4
          rw [Option.bind_eq_some_iff] at h
          obtain ⟨i, h1, h⟩ := h
          rw [Option.map_eq_some_iff] at h
          obtain ⟨ib, h3, rfl⟩ := h
          obtain ⟨f, fd, x, cv, m1, m2, m3, m4, m5, m6⟩ := (errs (fun z => by rw [z] at q7; cases q7)).ex
          obtain ⟨k', rfl⟩ : ∃ k', k = k' + 1 := ⟨k - 1, by omega⟩
          have rm := g.1.room
          refine ss_try (m6 X.prog X.w X.base k') ⟨rm.dp, rm.un⟩ hsk hfr (by rw [g.1.hN]; exact g.1.nd) (by rw [g.1.hN]; exact (slot_of h1).1) ((kind_at g _).trans q8) ⟨ctx_gl g q5, (dunder_ne (glB_of q5).2).1, .inl m4⟩ g.2 m5 (ctx_gl g q6) m1 m2 m3 fun W' pn xe tk' po' => ?_
          exact sl_ok (ih0 (X := X.tr pn xe) exs errs hk0 hsk hfr ⟨⟨g.1.hN, g.1.nd, g.1.hs, g.1.hf, g.1.calm, g.1.guards, g.1.room, g.1.fns, g.1.free, g.1.nums⟩, tk'⟩ po') h3
        · cases h
      · cases h
    · cases h; exact ss_pass
    · cases h; exact ss_brk
    · cases h; exact ss_cnt
    · cases h
/-- the translation of a def's body -/
def cBody (n : Nat) (c : Cc) (ss : List Stmt) : Option (List IS) := cSL (cS n c) ss
theorem cBody_ok {K : PySem.W.Frag} {mg : Str → Option Value} {n : Nat} {N : List Str} {scope : Scope} {T : Tab} {dk : Nat} {body : List Stmt} {iss : List IS} (h : cBody n ⟨N, scope, fun _ => true, T, dk⟩ body = some iss) (exs : ∀ i x, T.excs[i]? = some x → ExcK K mg EA i x) (errs : T.excs ≠ [] → ErrK EA K mg) (C : CallSem) (k : Nat) :
    BodyOk T EA K mg N scope C k body iss := fun hk0 X W eK emg g tk po hsk hfr => by
  subst eK emg
  exact sl_ok (cS_ok (c := ⟨N, scope, fun _ => true, T, dk⟩) n exs errs hk0 hsk hfr ⟨g, tk⟩ po) h
end
end Cw
set_option Elab.async false
set_option linter.all false
set_option maxRecDepth 100000
set_option maxHeartbeats 4000000
set_option autoImplicit false
/-! Cw, part Zc: the end of a law's row -/
namespace Cw
open PySem L2

/-- only u stands at a -/
def oneH (a : Addr) (u : HO) : Hp := fun b => if b = a then some u else none
theorem oneH_at {a : Addr} {u : HO} : oneH a u a = some u := if_pos rfl
theorem oneH_of {a b : Addr} {u v : HO} (h : oneH a u b = some v) : b = a ∧ u = v := by
  unfold oneH at h
  split at h
  · rename_i e; exact ⟨e, Option.some.inj h⟩
  · cases h
/-- what the row's end asks of a run -/
abbrev EndR (s₁ : Shared) (r : Result) (t : Shared) : Prop := r = .ok (.ret (.bool true)) ∧ PySem.OldK s₁.heap t.heap ∧ t.os = s₁.os ∧ PyProof.Rows.AllBare t.gens
section
variable {P : Program} {w : World} {K : PySem.W.Frag} {mg mb : Str → Option Value} {k : Nat} {fa a : Addr} {fd : FuncData} {x : Str} {sp : Sp} {s₁ : Shared} {vs : List Value} {ns : List Int}
/-- the start, where the tracked heap is H -/
theorem end_core {H : Hp} (inK : K.In s₁.heap) (nm : s₁.heap.Ns mainGlobals mg) (nb : s₁.heap.Ns builtinsNs mb) (boot : ∀ y : Str, y ≠ "__name__" → mb y = bootBuiltins y) (free : s₁.heap.NoLimit) (gens : s₁.gens = #[])
    (obj : s₁.heap.get? a = some { cls := .type "list", data := .seq vs.toArray }) (room : Room k callerA) 
    (G : ∀ base : Heap, K.In base → base.Ns mainGlobals mg → FnG P w K mg base k fa fd [x] sp) (bind1 : ∀ (s : Shared) (u : Value), BindsTo s fd ⟨[u], []⟩ [(x, u)]) (hsp : sp [.ref a] H (fun u _ => u = .bl true) fun _ _ _ => False)
    (only : Only H) (hok : HOk P w H s₁.heap) (onlyA : ∀ b, H b ≠ none → b = a) (notK : H a ≠ none → K.lookup a = none) : codeAny (model P w) callerA (.call (.ref fa) ⟨[.ref a], []⟩) (EndR s₁) s₁ := by
  have seen : ∀ {b : Addr} {o : Obj}, s₁.heap.get? b = some o → H b = none → (hidT s₁.heap H).get? b = some o := fun e n => hidT_get e n
  have dictN : ∀ {b : Addr} {o : Obj} {es : Array DictEntry} {ep : Nat}, s₁.heap.get? b = some o → o.data = .dict es ep → H b = none := by
    intro b o es ep e d
    cases q : H b with
    | none => rfl
    | some u =>
      have eb := onlyA b (by rw [q]; exact Option.some_ne_none u)
      subst eb
      rw [obj] at e
      cases e
      cases (show Data.seq vs.toArray _ = Data.dict es ep from d)
  have nsT : ∀ {b : Addr} {m : Str → Option Value}, s₁.heap.Ns b m → (hidT s₁.heap H).Ns b m := by
    rintro b m ⟨o, es, ep, e, d, rest⟩
    exact ⟨o, es, ep, seen e (dictN e d), d, rest⟩
  have inT : K.In (hidT s₁.heap H) := by
    intro b o e
    refine seen (inK b o e) ?_
    cases q : H b with
    | none => rfl
    | some u =>
      have eb := onlyA b (by rw [q]; exact Option.some_ne_none u)
      subst eb
      rw [notK (by rw [q]; exact Option.some_ne_none u)] at e
      cases e
  obtain ⟨mc, c1, c2⟩ := free
  have md : Mod K mg (hidT s₁.heap H) := ⟨inT, nsT nm, ⟨mb, nsT nb, boot⟩, mc, nsT c1, c2⟩
  have env : Env0 P w K mg (hidT s₁.heap H) callerA [] s₁ H := ⟨rfl, md, fun _ _ => of_hidT, Nat.le_of_eq (hidT_size _ _), trivial, (fun b z => nomatch (show b ∈ ([] : List Addr) from z)), hok, .of_eq gens⟩
  have run := (G _ inT (nsT nm)).run callerA [] s₁ H ⟨[.ref a], []⟩ [.ref a] [.ref a] _ _ room rfl env (bind1 s₁ (.ref a)) (.cons rfl .nil) hsp
  refine codeAny_mono run fun r t h => ?_
  cases r with
  | error e =>
    obtain ⟨_, _, _, _, _, _, _, _, _, _, _, _, z⟩ := h
    exact z.elim
  | ok fl =>
    cases fl with
    | ret u =>
      obtain ⟨v, H', os, bare, un, hok', rel, q⟩ := h
      cases (show v = V.bl true from q)
      cases (show u = Value.bool true from rel)
      refine ⟨rfl, PySem.OldK.of_keep fun b o e => ?_, os, bare⟩
      cases q : H b with
      | none => exact un.keep b o e q (fun z => nomatch (show b ∈ ([] : List Addr) from z)) (fun z => nomatch z)
      | some u =>
        rcases only b with z | ⟨ob, xs, z⟩
        · rw [q] at z; cases z
        · obtain ⟨e1, _⟩ := hok b _ z
          obtain ⟨e2, _⟩ := hok' b _ (un.frzs b ob _ z)
          rw [e] at e1
          cases e1
          exact e2
    | next => exact h.elim
    | brk => exact h.elim
    | cont => exact h.elim
end
theorem script_rel {K : PySem.W.Frag} {H : Hp} {a : Addr} {ns : List Int} (only : Only H) (q : SqL K H a (ns.map V.int)) : Rel K (fun b => H b ≠ none) H [some (.sh, .scr ns)] ([V.ref a].map some) := by
  have rep : Rep K (fun b => H b ≠ none) H (.scr ns) (.ref a) := by
    refine ⟨a, rfl, ?_⟩
    rcases q with (q | ⟨o, q⟩) | q
    · rcases only a with z | ⟨ob, xs, z⟩ <;> (rw [q] at z; cases z)
    · exact .inl ⟨(by show H a ≠ none; rw [q]; exact Option.some_ne_none _), o, q⟩
    · exact .inr q
  have g : ∀ {i : Nat} {s : Stt} {d : PV}, ([some (Stt.sh, PV.scr ns)] : Rho)[i]? = some (some (s, d)) → i = 0 ∧ s = .sh ∧ d = .scr ns := fun {i s d} h => by
    cases i with
    | zero => simp at h; exact ⟨rfl, h.1.symm, h.2.symm⟩
    | succ i => simp at h
  refine ⟨rfl, fun _ z => z, fun i s d h m => ?_, fun i s d h m => ?_, fun i j s d s' d' b h m => ?_⟩
  · obtain ⟨rfl, rfl, rfl⟩ := g h
    exact ⟨_, rfl, rep⟩
  · obtain ⟨_, rfl, _⟩ := g h
    cases m
  · obtain ⟨_, rfl, _⟩ := g h
    cases m
theorem spC_true {K : PySem.W.Frag} {EA : Nat → Addr} {cf : List Slot → CR} {H : Hp} {a : Addr} {ns : List Int} {fr : Bool} {outs : List Slot} (only : Only H) (q : SqL K H a (ns.map V.int)) (e : cf [some (.sh, .scr ns)] = .ok fr (.bl true) outs) (hf : fr = false) :
    spC K EA 1 cf [.ref a] H (fun u _ => u = .bl true) fun _ _ _ => False := by
  refine ⟨_, _, script_rel only q, rfl, ?_⟩
  rw [e]
  subst hf
  exact fun F' H' v _ _ rv => rv
/-- the row's walk, from the evaluator's word on the law's def -/
theorem walkG {l : PySem.W.OpenLaw} {n k : Nat} {q : Program} {loose : List Str} {XP : (Str → Option Value) → Heap → Prop} {YP : World → Heap → Prop} {d : DefRec} {K : Params → PySem.W.Frag} {x : Str} (hn : l.most = some n) (hn2 : n ≤ sizeLine) (hdf : d.params.defaults = []) (room : Room k callerA)
    (hY : ∀ (w : World) (h : Heap), YP w h → (K w.params).In h)
    (F : ∀ (w : World) (mg : Str → Option Value) (fa : Addr) (h : Heap), (K w.params).In h → h.Ns mainGlobals mg → mg d.name = some (.ref fa) → ∃ (fd : FuncData) (EA : Nat → Addr) (cf : List Slot → CR), (∀ (s : Shared) (u : Value), BindsTo s fd ⟨[u], []⟩ [(x, u)]) ∧
      (∀ base : Heap, (K w.params).In base → base.Ns mainGlobals mg → FnG l.prog w (K w.params) mg base k fa fd [x] (spC (K w.params) EA 1 cf)) ∧ ∀ ns : List Int, ns.length ≤ n → ∃ outs, cf [some (.sh, .scr ns)] = .ok false (.bl true) outs) :
    PySem.W.WalkO q loose XP YP l.row.toRowW d [] (fun f vs => PySem.call f vs) := by
  refine Att.attach_call hn hdf fun w s₀ s₁ mg mb fa o pm cd doc a vs ns G Y _ _ _ hmg obj nums len gens => ?_
  have inK := hY w _ Y
  obtain ⟨fd, EA, cf, bind1, G1, told⟩ := F w mg fa _ inK G.T.g hmg
  obtain ⟨outs, et⟩ := told ns len
  have vals := vals_ints nums
  have nlen := nums.length
  have lenS : ns.length ≤ sizeLine := Nat.le_trans len hn2
  cases hk : (K w.params).lookup a with
  | none =>
    have only : Only (oneH a (.frz { cls := .type "list", data := .seq vs.toArray } (.lst (ns.map V.int)))) := fun b => by
      cases e : oneH a (.frz { cls := .type "list", data := .seq vs.toArray } (.lst (ns.map V.int))) b with
      | none => exact .inl rfl
      | some u => obtain ⟨_, rfl⟩ := oneH_of e; exact .inr ⟨_, _, rfl⟩
    have sq : SqL (K w.params) (oneH a (.frz { cls := .type "list", data := .seq vs.toArray } (.lst (ns.map V.int)))) a (ns.map V.int) := .inl (.inr ⟨_, oneH_at⟩)
    refine end_core inK G.T.g G.T.b G.T.builtins G.T.nolimit gens obj room G1 bind1 (spC_true only sq et rfl) only (fun b u z => ?_) (fun b z => ?_) fun _ => hk
    · obtain ⟨rfl, rfl⟩ := oneH_of z
      exact ⟨obj, by rw [List.length_map]; exact lenS, vs, _, vals, obj⟩
    · cases e : oneH a (.frz { cls := .type "list", data := .seq vs.toArray } (.lst (ns.map V.int))) b with
      | none => exact absurd e z
      | some u => exact (oneH_of e).1
  | some ob =>
    have eo := inK a ob hk
    rw [obj] at eo
    cases eo
    have only : Only (fun _ => none) := fun _ => .inl rfl
    have sq : SqL (K w.params) (fun _ => none) a (ns.map V.int) := .inr ⟨_, vs.toArray, _, hk, rfl, rfl, rfl, by rw [List.size_toArray, nlen]; exact lenS, by simpa using vals⟩
    exact end_core inK G.T.g G.T.b G.T.builtins G.T.nolimit gens obj room G1 bind1 (spC_true only sq et rfl) only (fun b u z => nomatch (show (none : Option HO) = some u from z)) (fun b z => absurd rfl z) fun z => absurd rfl z
end Cw
set_option Elab.async false
set_option linter.all false
set_option maxRecDepth 100000
set_option maxHeartbeats 4000000
set_option autoImplicit false
/-! Cw, part Zd: what the top has left, read by a Hook -/
namespace Cw
open PySem PySem.Spec PyProof.Rows L2

/-! ### the Hook: facts, defs and a test of one's own -/
def obsX (x : PySem.W.Frag → Bool) (fa : List He.Fa) (fn : List He.DefD) (K : PySem.W.Frag) : He.AlD := (x K && (He.obsD fa fn K).1, (He.obsD fa fn K).2)
def hookX (n : Nat) (x : PySem.W.Frag → Bool) (fa : List He.Fa) (fn : List He.DefD) : PySem.W.Hook where
  α := He.AlD
  obs := fun s => obsX x fa fn (He.frG s.heap.get? (He.asD s.heap.get? n))
  val := fun _ => He.valD fn
  says := fun _ h => ∃ K : PySem.W.Frag, K.In h ∧ obsX x fa fn K = He.valD fn
  of := fun _ _ e => ⟨_, He.frG_in, e⟩
  keeps := fun _ _ _ ⟨K, i, c⟩ k => ⟨K, PySem.W.Frag.In.keeps i k, c⟩
noncomputable def obX (n : Nat) (x : PySem.W.Frag → Bool) (fa : List He.Fa) (fn : List He.DefD) (s : PySem.W.SharedT) : He.AlD := obsX x fa fn (He.frG (HandSHeadRun.getT s) (He.asD (HandSHeadRun.getT s) n))
theorem obX_eq {n : Nat} {x : PySem.W.Frag → Bool} {fa : List He.Fa} {fn : List He.DefD} (s : PySem.W.SharedT) : obX n x fa fn s = (hookX n x fa fn).obs s.abs := by
  have e : HandSHeadRun.getT s = s.abs.heap.get? := funext (HandSHeadRun.getT_eq s)
  show obsX x fa fn (He.frG (HandSHeadRun.getT s) (He.asD (HandSHeadRun.getT s) n)) = _
  rw [e]
  rfl
theorem obsX_of {x : PySem.W.Frag → Bool} {fa : List He.Fa} {fn : List He.DefD} {K : PySem.W.Frag} (h : obsX x fa fn K = He.valD fn) : x K = true ∧ He.SaysD fa fn K := by
  have h1 : (x K && (He.obsD fa fn K).1) = true := congrArg Prod.fst h
  have h2 : (He.obsD fa fn K).2 = fn.map He.DefD.val := congrArg Prod.snd h
  rw [Bool.and_eq_true] at h1
  refine ⟨h1.1, ?_⟩
  show He.obsD fa fn K = (true, fn.map He.DefD.val)
  rw [← h2, ← h1.2]

/-! ### the classes of exceptions -/
def bmE : List Value := [.type "Exception", .type "BaseException", .type "object"]
/-- a class that is raised -/
def excB (K : PySem.W.Frag) (x : Str) : Bool := PySem.W.excIn K (He.ga K x) bmE "Exception.__new__" && PySem.W.keepIn K (.ref (He.ga K x)) && decide (PySem.W.subIn K (.ref (He.ga K x)) (.type "BaseException") = some true) && decide (PySem.W.typeIn K (.ref (He.ga K x)) = some (.type "type"))
def isiB (K : PySem.W.Frag) (x : Str) : Bool := decide (PySem.W.findIn K (.ref (He.ga K x)) "__getattribute__" = some (some (.builtin "BaseException.__getattribute__"))) && decide (PySem.W.findIn K (.ref (He.ga K x)) "__getattr__" = some none) &&
  decide (PySem.W.subIn K (.ref (He.ga K x)) (.type "BaseException") = some true) && PySem.W.hasDictIn K (He.ga K x) && decide (PySem.W.findIn K (.ref (He.ga K x)) "__class__" = some (some (.builtin "object.__class__"))) &&
  decide (PySem.W.specialIn K (.builtin "object.__class__") "__get__" = some (some (.builtin "getset_descriptor.__get__"))) && decide (PySem.W.takesIn K (.builtin "object.__class__") = some true) && decide (PySem.W.mroIn K (He.ga K x) (.type "object") = some true)
def eNames : List Str := ["NotAllowed", "TooLarge", "Missing", "BadPaper", "BadForm"]
def kitB5 (K : PySem.W.Frag) : Bool := (List.range 5).all fun i => (List.range 5).all fun j => decide (PySem.W.kitOne K (.ref (He.ga K (eNames.getD i ""))) (.ref (He.ga K (eNames.getD j ""))) = some (decide (i = j)))
def exmB (K : PySem.W.Frag) (x : Str) : Bool := decide (PySem.W.exmOne K (.ref (He.ga K x)) (.ref (He.ga K "CountError")) = some true)
/-- all that is asked of the classes; es: those that are raised -/
def testX (es : List Str) (K : PySem.W.Frag) : Bool := es.all (excB K) && eNames.all (isiB K) && kitB5 K && eNames.all (exmB K)
def EAo (K : PySem.W.Frag) (i : Nat) : Addr := He.ga K (eNames.getD i "")
section
variable {K : PySem.W.Frag} {h : Heap} {mg : Str → Option Value} {es : List Str}
theorem excK_of (t : testX es K = true) {i : Nat} {x : Str} (hx : es[i]? = some x) (hi : eNames[i]? = some x) (g : mg x = some (.ref (He.ga K x))) : ExcK K mg (EAo K) i x := by
  unfold testX at t
  simp only [Bool.and_eq_true, List.all_eq_true] at t
  have c := t.1.1.1 x (List.mem_of_getElem? hx)
  unfold excB at c
  simp only [Bool.and_eq_true, decide_eq_true_eq] at c
  obtain ⟨⟨⟨c1, c2⟩, c3⟩, c4⟩ := c
  have e : EAo K i = He.ga K x := by unfold EAo; rw [List.getD_eq_getElem?_getD, hi]; rfl
  exact ⟨⟨bmE, _, _, _, PySem.F.excBase_Exception, by rw [e]; exact c1⟩, by rw [e]; exact g, by rw [e]; exact c2, by rw [e]; exact c3, by rw [e]; exact c4⟩
theorem eName_at {i : Nat} (h : i < 5) : eNames.getD i "" ∈ eNames := by
  rw [List.getD_eq_getElem?_getD, List.getElem?_eq_getElem (show i < eNames.length from h)]
  exact List.getElem_mem (show i < eNames.length from h)
theorem excC_of (t : testX es K = true) {i : Nat} (hi : i < 5) : ExcC K (EAo K i) := by
  unfold testX at t
  simp only [Bool.and_eq_true, List.all_eq_true] at t
  have c := t.1.1.2 _ (eName_at hi)
  unfold isiB at c
  simp only [Bool.and_eq_true, decide_eq_true_eq] at c
  obtain ⟨⟨⟨⟨⟨⟨⟨c1, c2⟩, c3⟩, c4⟩, c5⟩, c6⟩, c7⟩, c8⟩ := c
  exact ⟨c1, c2, c3, c4, c5, c6, c7, c8⟩
theorem kit_of (t : testX es K = true) {i j : Nat} (hi : i < 5) (hj : j < 5) : PySem.W.kitOne K (.ref (EAo K i)) (.ref (EAo K j)) = some (decide (i = j)) := by
  unfold testX kitB5 at t
  simp only [Bool.and_eq_true, List.all_eq_true, decide_eq_true_eq] at t
  exact t.1.2 i (List.mem_range.mpr hi) j (List.mem_range.mpr hj)
theorem exm_of5 (t : testX es K = true) {i : Nat} (hi : i < 5) : PySem.W.exmOne K (.ref (EAo K i)) (.ref (He.ga K "CountError")) = some true := by
  unfold testX at t
  simp only [Bool.and_eq_true, List.all_eq_true] at t
  have c := t.2 _ (eName_at hi)
  unfold exmB at c
  exact of_decide_eq_true c
end

/-! ### defs -/
theorem defAt_of {T : Tab} {EA : Nat → Addr} {P : Program} {w : World} {K : PySem.W.Frag} {mg : Str → Option Value} {tbl : List Fn} {f : Nat} {x : Str} {fa : Addr} {params : Arguments} {body : List Stmt} {scope : Scope} {fd : FuncData} {N ps : List Str} {fn : Fn}
    (F : L2.FunD K x x params body scope [] [] fa fd) (g : mg x = some (.ref fa)) (S : FnScope N ps scope) (bnd : ∀ (kV doc pm : Value) (an : Option Addr) (cdv ct : Value) (us : List Value), us.length = ps.length → bindArgs (PySem.W.fnOf x x params body scope .none kV doc pm an cdv ct) ⟨us, []⟩ = pure (ps.zip us))
    (ht : tbl[f]? = some fn) (h1 : fn.np = ps.length) (h2 : fn.nn = N.length) (bo : ∀ (C : CallSem) (k : Nat), BodyOk T EA K mg N scope C k body fn.body) : DefAt T EA P w K mg tbl f x := by
  obtain ⟨oc, od, dV, kV, doc, pm, an, cdv, ct, osl, rfl, lk, hcd, hD, hK⟩ := F.ex
  have e : dV = .none := by
    rcases hD with ⟨_, e⟩ | ⟨e, _⟩
    · exact e
    · exact absurd rfl e
  subst e
  exact ⟨fa, x, x, params, body, scope, _, kV, doc, pm, cdv, ct, oc, an, od, osl, N, ps, fn, g, F.kp, .all (bnd kV doc pm an cdv ct), lk, hcd, S, ht, h1, h2, bo⟩
/-- the law's own def -/
theorem law_of {T : Tab} {EA : Nat → Addr} {P : Program} {w : World} {K : PySem.W.Frag} {mg : Str → Option Value} {tbl : List Fn} {fa : Addr} {x p : Str} {params : Arguments} {body : List Stmt} {scope : Scope} {fd : FuncData} {N : List Str} {fn : Fn} (k : Nat)
    (F : L2.FunD K x x params body scope [] [] fa fd) (S : FnScope N [p] scope) (bnd : ∀ (kV doc pm : Value) (an : Option Addr) (cdv ct : Value) (us : List Value), us.length = 1 → bindArgs (PySem.W.fnOf x x params body scope .none kV doc pm an cdv ct) ⟨us, []⟩ = pure (([p] : List Str).zip us))
    (h1 : fn.np = 1) (h2 : fn.nn = N.length) (bo : ∀ (C : CallSem) (k : Nat), BodyOk T EA K mg N scope C k body fn.body) (kn : ∀ base : Heap, Known T EA P w K mg base (k + 1) (evalCall tbl k)) :
    ∃ fd : FuncData, (∀ (s : Shared) (u : Value), BindsTo s fd ⟨[u], []⟩ [(p, u)]) ∧ ∀ base : Heap, FnG P w K mg base (k + 2) fa fd [p] (spC K EA 1 (callF fn (evalCall tbl k))) := by
  obtain ⟨oc, od, dV, kV, doc, pm, an, cdv, ct, osl, rfl, lk, hcd, hD, hK⟩ := F.ex
  have e : dV = .none := by
    rcases hD with ⟨_, e⟩ | ⟨e, _⟩
    · exact e
    · exact absurd rfl e
  subst e
  exact ⟨_, fun s u => .of_eq (bnd kV doc pm an cdv ct [u] rfl), fun base => fnG_body (ps := [p]) lk hcd S h1 h2 (kn base) (by omega) (bo _ (k + 1))⟩
/-- walkG, the fragment by the Hook -/
theorem walkH {l : PySem.W.OpenLaw} {n k : Nat} {q : Program} {loose : List Str} {XP : (Str → Option Value) → Heap → Prop} {YP : World → Heap → Prop} {d : DefRec} {x : Str} (hn : l.most = some n) (hn2 : n ≤ sizeLine) (hdf : d.params.defaults = []) (room : Room k callerA)
    (F : ∀ (w : World) (mg : Str → Option Value) (fa : Addr) (h : Heap), YP w h → h.Ns mainGlobals mg → mg d.name = some (.ref fa) → ∃ (K : PySem.W.Frag) (fd : FuncData) (EA : Nat → Addr) (cf : List Slot → CR), K.In h ∧ (∀ (s : Shared) (u : Value), BindsTo s fd ⟨[u], []⟩ [(x, u)]) ∧
      (∀ base : Heap, FnG l.prog w K mg base k fa fd [x] (spC K EA 1 cf)) ∧ ∀ ns : List Int, ns.length ≤ n → ∃ outs, cf [some (.sh, .scr ns)] = .ok false (.bl true) outs) :
    PySem.W.WalkO q loose XP YP l.row.toRowW d [] (fun f vs => PySem.call f vs) := by
  refine Att.attach_call hn hdf fun w s₀ s₁ mg mb fa o pm cd doc a vs ns G Y _ _ _ hmg obj nums len gens => ?_
  obtain ⟨K, fd, EA, cf, inK, bind1, G1, told⟩ := F w mg fa _ Y G.T.g hmg
  obtain ⟨outs, et⟩ := told ns len
  have vals := vals_ints nums
  have nlen := nums.length
  have lenS : ns.length ≤ sizeLine := Nat.le_trans len hn2
  cases hk : K.lookup a with
  | none =>
    have only : Only (oneH a (.frz { cls := .type "list", data := .seq vs.toArray } (.lst (ns.map V.int)))) := fun b => by
      cases e : oneH a (.frz { cls := .type "list", data := .seq vs.toArray } (.lst (ns.map V.int))) b with
      | none => exact .inl rfl
      | some u => obtain ⟨_, rfl⟩ := oneH_of e; exact .inr ⟨_, _, rfl⟩
    have sq : SqL K (oneH a (.frz { cls := .type "list", data := .seq vs.toArray } (.lst (ns.map V.int)))) a (ns.map V.int) := .inl (.inr ⟨_, oneH_at⟩)
    refine end_core inK G.T.g G.T.b G.T.builtins G.T.nolimit gens obj room (fun base _ _ => G1 base) bind1 (spC_true only sq et rfl) only (fun b u z => ?_) (fun b z => ?_) fun _ => hk
    · obtain ⟨rfl, rfl⟩ := oneH_of z
      exact ⟨obj, by rw [List.length_map]; exact lenS, vs, _, vals, obj⟩
    · cases e : oneH a (.frz { cls := .type "list", data := .seq vs.toArray } (.lst (ns.map V.int))) b with
      | none => exact absurd e z
      | some u => exact (oneH_of e).1
  | some ob =>
    have eo := inK a ob hk
    rw [obj] at eo
    cases eo
    have only : Only (fun _ => none) := fun _ => .inl rfl
    have sq : SqL K (fun _ => none) a (ns.map V.int) := .inr ⟨_, vs.toArray, _, hk, rfl, rfl, rfl, by rw [List.size_toArray, nlen]; exact lenS, by simpa using vals⟩
    exact end_core inK G.T.g G.T.b G.T.builtins G.T.nolimit gens obj room (fun base _ _ => G1 base) bind1 (spC_true only sq et rfl) only (fun b u z => nomatch (show (none : Option HO) = some u from z)) (fun b z => absurd rfl z) fun z => absurd rfl z
end Cw
set_option maxRecDepth 100000
set_option Elab.async false
set_option linter.all false
set_option maxHeartbeats 4000000
namespace Cw
open PySem L2
def top (i : Nat) : Stmt := PySem.Challenge.pw_countwarrant_k00_whole_sayings_that_hold.main.body.getD i (.Pass ⟨0, 0, 0, 0⟩)
def TT : Tab := ⟨["is_row", "all_rows", "parts_of", "is_kind", "check_theory", "check_saying", "known_holds", "holds", "rows_that_hold", "letters_used", "size_of", "_law_stream", "_law_next", "_law_saying", "_law_theory", "_law_rows", "_law_value", "_law_same", "_law_odd_theory", "_law_told", "_law_within", "_law_walk", "law"], [("MAX_TRIED", 14), ("MAX_PARTS", 120), ("MAX_DEPTH", 10), ("MAX_OWN", 20), ("MAX_SAYINGS", 30), ("MAX_NUMBER", 1000)], ["len", "abs", "all", "any", "sum", "tuple", "list", "int", "sorted", "max", "min", "repr", "range", "zip", "enumerate", "set", "isinstance"], ["NotAllowed", "TooLarge", "Missing", "BadPaper"]⟩
def n_is_row : List Str := ["letters", "row", "one"]
def b_is_row : List IS := [.ret (.and (.cmp .eq (.blt .len (.var 1)) (.var 0)) (.blt .all (.lcp [2] (.name 2) .seq [(.var 1)] [] (.cmp .isin (.var 2) (.tup [(.cst (.int 0)), (.cst (.int 1))])))))]
theorem t_is_row : cBody 60 ⟨n_is_row, defScope (top 9), fun _ => true, TT, 0⟩ (defBody (top 9)) = some b_is_row := by kernel_rfl
def n_all_rows : List Str := ["letters", "rows", "_", "row", "one"]
def b_all_rows : List IS := [.asg (.name 1) (.lst [(.tup [])]), .for_ (.name 2) .range1 [(.var 0)] [.asg (.name 1) (.lcp2 [3, 4] [4] (.name 3) .seq [(.var 1)] (.name 4) .seq [(.tup [(.cst (.int 0)), (.cst (.int 1))])] [] (.tupS (.var 3) [(.var 4)]))], .ret (.var 1)]
theorem t_all_rows : cBody 60 ⟨n_all_rows, defScope (top 10), fun _ => true, TT, 0⟩ (defBody (top 10)) = some b_all_rows := by kernel_rfl
def n_parts_of : List Str := ["saying", "_", "part"]
def b_parts_of : List IS := [.ifs (.cmp .isin (.idx (.var 0) (.cst (.int 0))) (.tup [(.cst (.str [97, 108, 108])), (.cst (.str [115, 111, 109, 101]))])) [.ret (.idx (.var 0) (.cst (.int 1)))] [], .ifs (.cmp .isin (.idx (.var 0) (.cst (.int 0))) (.tup [(.cst (.str [108, 101, 97, 115, 116])), (.cst (.str [109, 111, 115, 116])), (.cst (.str [106, 117, 115, 116]))])) [.ret (.idx (.var 0) (.cst (.int 2)))] [], .ifs (.cmp .eq (.idx (.var 0) (.cst (.int 0))) (.cst (.str [115, 117, 109]))) [.ret (.blt .tuple (.lcp [1, 2] (.tup [(.name 1), (.name 2)]) .seq [(.idx (.var 0) (.cst (.int 2)))] [] (.var 2)))] [], .ret (.ite (.cmp .isin (.idx (.var 0) (.cst (.int 0))) (.tup [(.cst (.str [110, 111, 116])), (.cst (.str [116, 104, 101, 110])), (.cst (.str [115, 97, 109, 101]))])) (.slc (.var 0) (.cst (.int 1)) (.cst .non)) (.tup []))]
theorem t_parts_of : cBody 60 ⟨n_parts_of, defScope (top 17), fun _ => true, TT, 0⟩ (defBody (top 17)) = some b_parts_of := by kernel_rfl
def n_is_kind : List Str := ["letters", "saying", "sizes", "row"]
def b_is_kind : List IS := [.asg (.name 2) (.dsp 0 [(.cst (.str [121, 101, 115])), (.cst (.int 1)), (.cst (.str [110, 111])), (.cst (.int 1)), (.cst (.str [108, 101, 116, 116, 101, 114])), (.cst (.int 2)), (.cst (.str [110, 111, 116])), (.cst (.int 2)), (.cst (.str [116, 104, 101, 110])), (.cst (.int 3)), (.cst (.str [115, 97, 109, 101])), (.cst (.int 3)), (.cst (.str [97, 108, 108])), (.cst (.int 2)), (.cst (.str [115, 111, 109, 101])), (.cst (.int 2))]), .ex (.met .update 2 [(.dsp 0 [(.cst (.str [108, 101, 97, 115, 116])), (.cst (.int 3)), (.cst (.str [109, 111, 115, 116])), (.cst (.int 3)), (.cst (.str [106, 117, 115, 116])), (.cst (.int 3)), (.cst (.str [115, 117, 109])), (.cst (.int 3))])]), .ifs (.or (.cmp .eq (.blt .len (.var 1)) (.cst (.int 0))) (.or (.cmp .notin (.idx (.var 1) (.cst (.int 0))) (.var 2)) (.cmp .ne (.blt .len (.var 1)) (.idx (.var 2) (.idx (.var 1) (.cst (.int 0))))))) [.ret (.cst (.bl false))] [], .ifs (.cmp .eq (.idx (.var 1) (.cst (.int 0))) (.cst (.str [108, 101, 116, 116, 101, 114]))) [.ret (.chain .le .le (.cst (.int 1)) (.idx (.var 1) (.cst (.int 1))) (.var 0))] [], .ifs (.and (.cmp .eq (.idx (.var 1) (.cst (.int 0))) (.cst (.str [115, 117, 109]))) (.not (.blt .all (.lcp [3] (.name 3) .seq [(.idx (.var 1) (.cst (.int 2)))] [] (.and (.cmp .eq (.blt .len (.var 3)) (.cst (.int 2))) (.cmp .le (.blt .abs (.idx (.var 3) (.cst (.int 0)))) (.gint "MAX_NUMBER" 1000))))))) [.ret (.cst (.bl false))] [], .ret (.or (.cmp .notin (.idx (.var 1) (.cst (.int 0))) (.tup [(.cst (.str [108, 101, 97, 115, 116])), (.cst (.str [109, 111, 115, 116])), (.cst (.str [106, 117, 115, 116])), (.cst (.str [115, 117, 109]))])) (.cmp .le (.blt .abs (.idx (.var 1) (.cst (.int 1)))) (.gint "MAX_NUMBER" 1000)))]
theorem t_is_kind : cBody 60 ⟨n_is_kind, defScope (top 18), fun _ => true, TT, 0⟩ (defBody (top 18)) = some b_is_kind := by kernel_rfl
def n_check_theory : List Str := ["theory", "saying", "letters", "sayings"]
def b_check_theory : List IS := [.asg (.tup [(.name 2), (.name 3)]) (.var 0), .ifs (.or (.cmp .gt (.var 2) (.gint "MAX_OWN" 20)) (.cmp .gt (.blt .len (.var 3)) (.gint "MAX_SAYINGS" 30))) [.raise 1] [], .ifs (.cmp .lt (.var 2) (.cst (.int 0))) [.raise 0] [], .for_ (.name 1) .seq [(.var 3)] [.ex (.call 5 [(.var 2), (.var 1)])], .ret (.cst .non)]
theorem t_check_theory : cBody 60 ⟨n_check_theory, defScope (top 19), fun _ => true, TT, 0⟩ (defBody (top 19)) = some b_check_theory := by kernel_rfl
def n_check_saying : List Str := ["letters", "saying", "line", "seen", "here", "deep", "part"]
def b_check_saying : List IS := [.asgs [2, 3] [(.lst [(.tup [(.var 1), (.cst (.int 1))])]), (.cst (.int 0))], .whl (.cmp .gt (.blt .len (.var 2)) (.cst (.int 0))) [.asg (.tup [(.name 4), (.name 5)]) (.met .pop 2 []), .aug 3 .add (.cst (.int 1)), .ifs (.or (.cmp .gt (.var 3) (.gint "MAX_PARTS" 120)) (.cmp .gt (.var 5) (.gint "MAX_DEPTH" 10))) [.raise 1] [], .ifs (.not (.call 3 [(.var 0), (.var 4)])) [.raise 0] [], .ex (.met .extend 2 [(.lcp [6] (.name 6) .seq [(.call 2 [(.var 4)])] [] (.tup [(.var 6), (.bin .add (.var 5) (.cst (.int 1)))]))])], .ret (.cst .non)]
theorem t_check_saying : cBody 60 ⟨n_check_saying, defScope (top 20), fun _ => true, TT, 0⟩ (defBody (top 20)) = some b_check_saying := by kernel_rfl
def n_known_holds : List Str := ["saying", "row", "kind", "told", "many", "part", "one", "weight", "_"]
def b_known_holds : List IS := [.asg (.name 2) (.idx (.var 0) (.cst (.int 0))), .ifs (.cmp .isin (.var 2) (.tup [(.cst (.str [121, 101, 115])), (.cst (.str [110, 111]))])) [.ret (.cmp .eq (.var 2) (.cst (.str [121, 101, 115])))] [], .ifs (.cmp .eq (.var 2) (.cst (.str [108, 101, 116, 116, 101, 114]))) [.ret (.cmp .eq (.idx (.var 1) (.bin .sub (.idx (.var 0) (.cst (.int 1))) (.cst (.int 1)))) (.cst (.int 1)))] [], .asg (.name 3) (.lcp [5] (.name 5) .seq [(.call 2 [(.var 0)])] [] (.call 6 [(.var 5), (.var 1)])), .ifs (.cmp .eq (.var 2) (.cst (.str [110, 111, 116]))) [.ret (.not (.idx (.var 3) (.cst (.int 0))))] [], .ifs (.cmp .isin (.var 2) (.tup [(.cst (.str [97, 108, 108])), (.cst (.str [115, 111, 109, 101]))])) [.ret (.ite (.cmp .eq (.var 2) (.cst (.str [97, 108, 108]))) (.blt .all (.var 3)) (.blt .any (.var 3)))] [], .ifs (.cmp .isin (.var 2) (.tup [(.cst (.str [116, 104, 101, 110])), (.cst (.str [115, 97, 109, 101]))])) [.ret (.ite (.cmp .eq (.var 2) (.cst (.str [116, 104, 101, 110]))) (.or (.not (.idx (.var 3) (.cst (.int 0)))) (.idx (.var 3) (.cst (.int 1)))) (.cmp .eq (.idx (.var 3) (.cst (.int 0))) (.idx (.var 3) (.cst (.int 1)))))] [], .ifs (.cmp .eq (.var 2) (.cst (.str [115, 117, 109]))) [.ret (.cmp .ge (.blt .sum (.lcp [7, 8, 6] (.tup [(.tup [(.name 7), (.name 8)]), (.name 6)]) .zip [(.idx (.var 0) (.cst (.int 2))), (.var 3)] [(.var 6)] (.var 7))) (.idx (.var 0) (.cst (.int 1))))] [], .asg (.name 4) (.blt .len (.lcp [6] (.name 6) .seq [(.var 3)] [(.var 6)] (.var 6))), .ret (.idx (.dsp 0 [(.cst (.str [108, 101, 97, 115, 116])), (.cmp .ge (.var 4) (.idx (.var 0) (.cst (.int 1)))), (.cst (.str [109, 111, 115, 116])), (.cmp .le (.var 4) (.idx (.var 0) (.cst (.int 1)))), (.cst (.str [106, 117, 115, 116])), (.cmp .eq (.var 4) (.idx (.var 0) (.cst (.int 1))))]) (.var 2))]
theorem t_known_holds : cBody 60 ⟨n_known_holds, defScope (top 21), fun _ => true, TT, 0⟩ (defBody (top 21)) = some b_known_holds := by kernel_rfl
def n_holds : List Str := ["theory", "row", "saying"]
def b_holds : List IS := [.ex (.call 4 [(.var 0)]), .ifs (.not (.call 0 [(.idx (.var 0) (.cst (.int 0))), (.var 1)])) [.raise 0] [], .ret (.blt .all (.lcp [2] (.name 2) .seq [(.idx (.var 0) (.cst (.int 1)))] [] (.call 6 [(.var 2), (.var 1)])))]
theorem t_holds : cBody 60 ⟨n_holds, defScope (top 22), fun _ => true, TT, 0⟩ (defBody (top 22)) = some b_holds := by kernel_rfl
def n_rows_that_hold : List Str := ["theory", "row", "saying"]
def b_rows_that_hold : List IS := [.ex (.call 4 [(.var 0)]), .ifs (.cmp .gt (.idx (.var 0) (.cst (.int 0))) (.gint "MAX_TRIED" 14)) [.raise 1] [], .ret (.lcp [1] (.name 1) .seq [(.call 1 [(.idx (.var 0) (.cst (.int 0)))])] [(.blt .all (.lcp [2] (.name 2) .seq [(.idx (.var 0) (.cst (.int 1)))] [] (.call 6 [(.var 2), (.var 1)])))] (.var 1))]
theorem t_rows_that_hold : cBody 60 ⟨n_rows_that_hold, defScope (top 23), fun _ => true, TT, 0⟩ (defBody (top 23)) = some b_rows_that_hold := by kernel_rfl
def n_letters_used : List Str := ["theory", "found", "line", "here"]
def b_letters_used : List IS := [.ex (.call 4 [(.var 0)]), .asgs [1, 2] [(.dsp 0 []), (.blt .list (.idx (.var 0) (.cst (.int 1))))], .whl (.cmp .gt (.blt .len (.var 2)) (.cst (.int 0))) [.asg (.name 3) (.met .pop 2 []), .ifs (.cmp .eq (.idx (.var 3) (.cst (.int 0))) (.cst (.str [108, 101, 116, 116, 101, 114]))) [.seti 1 (.idx (.var 3) (.cst (.int 1))) (.cst (.bl true))] [], .ex (.met .extend 2 [(.call 2 [(.var 3)])])], .ret (.blt .tuple (.blt .sorted (.var 1)))]
theorem t_letters_used : cBody 60 ⟨n_letters_used, defScope (top 24), fun _ => true, TT, 0⟩ (defBody (top 24)) = some b_letters_used := by kernel_rfl
def n_size_of : List Str := ["theory", "many", "line"]
def b_size_of : List IS := [.ex (.call 4 [(.var 0)]), .asgs [1, 2] [(.cst (.int 0)), (.blt .list (.idx (.var 0) (.cst (.int 1))))], .whl (.cmp .gt (.blt .len (.var 2)) (.cst (.int 0))) [.aug 1 .add (.cst (.int 1)), .ex (.met .extend 2 [(.call 2 [(.met .pop 2 [])])])], .ret (.var 1)]
theorem t_size_of : cBody 60 ⟨n_size_of, defScope (top 25), fun _ => true, TT, 0⟩ (defBody (top 25)) = some b_size_of := by kernel_rfl
def n_law_stream : List Str := ["script", "numbers", "cell", "rest", "k", "stirred"]
def b_law_stream : List IS := [.asg (.name 1) (.lst []), .for_ (.name 2) .seq [(.slc (.var 0) (.cst .non) (.cst (.int 63)))] [.asg (.name 3) (.blt .abs (.blt .int (.var 2))), .ifs (.cmp .ge (.var 3) (.bin .pow (.cst (.int 10)) (.cst (.int 18)))) [.for_ (.name 4) .range1 [(.cst (.int 60))] [.ex (.met .append 1 [(.bin .mod (.blt .int (.var 3)) (.cst (.int 1009)))]), .asg (.name 3) (.bin .fdiv (.var 3) (.cst (.int 1009))), .ifs (.cmp .eq (.var 3) (.cst (.int 0))) [.brk] []]] [.asg (.name 5) (.bin .mod (.blt .int (.var 3)) (.cst (.int 2147483647))), .for_ (.name 4) .range1 [(.cst (.int 10))] [.asg (.name 5) (.bin .mod (.blt .int (.bin .add (.bin .add (.bin .mul (.var 5) (.cst (.int 48271))) (.bin .mul (.cst (.int 7)) (.var 4))) (.cst (.int 11)))) (.cst (.int 2147483647))), .ex (.met .append 1 [(.bin .mod (.bin .mod (.blt .int (.bin .add (.bin .mul (.var 5) (.cst (.int 69621))) (.var 4))) (.cst (.int 2147483629))) (.cst (.int 1009)))])]]], .ifs (.cmp .eq (.blt .len (.var 1)) (.cst (.int 0))) [.ex (.met .append 1 [(.cst (.int 0))])] [], .ret (.var 1)]
theorem t_law_stream : cBody 60 ⟨n_law_stream, defScope (top 28), fun _ => true, TT, 0⟩ (defBody (top 28)) = some b_law_stream := by kernel_rfl
def n_law_next : List Str := ["state", "many", "turn"]
def b_law_next : List IS := [.seti 0 (.cst (.int 1)) (.bin .add (.idx (.var 0) (.cst (.int 1))) (.cst (.int 1))), .asg (.name 2) (.bin .fdiv (.idx (.var 0) (.cst (.int 1))) (.blt .len (.idx (.var 0) (.cst (.int 0))))), .ret (.bin .mod (.blt .int (.bin .add (.bin .add (.idx (.idx (.var 0) (.cst (.int 0))) (.bin .mod (.idx (.var 0) (.cst (.int 1))) (.blt .len (.idx (.var 0) (.cst (.int 0)))))) (.bin .mul (.var 2) (.cst (.int 389)))) (.bin .mul (.bin .mul (.idx (.var 0) (.cst (.int 1))) (.var 2)) (.cst (.int 17))))) (.var 1))]
theorem t_law_next : cBody 60 ⟨n_law_next, defScope (top 29), fun _ => true, TT, 0⟩ (defBody (top 29)) = some b_law_next := by kernel_rfl
def n_law_saying : List Str := ["state", "letters", "deep", "pick", "parts", "k", "part"]
def b_law_saying : List IS := [.asg (.name 3) (.call 12 [(.var 0), (.cst (.int 14))]), .ifs (.and (.cmp .eq (.var 1) (.cst (.int 0))) (.or (.cmp .eq (.var 2) (.cst (.int 0))) (.cmp .lt (.var 3) (.cst (.int 5))))) [.ret (.idx (.lst [(.tup [(.cst (.str [121, 101, 115]))]), (.tup [(.cst (.str [110, 111]))])]) (.call 12 [(.var 0), (.cst (.int 2))]))] [], .ifs (.or (.cmp .eq (.var 2) (.cst (.int 0))) (.cmp .lt (.var 3) (.cst (.int 5)))) [.ret (.tup [(.cst (.str [108, 101, 116, 116, 101, 114])), (.bin .add (.cst (.int 1)) (.call 12 [(.var 0), (.var 1)]))])] [], .ifs (.cmp .eq (.var 3) (.cst (.int 5))) [.ret (.idx (.lst [(.tup [(.cst (.str [121, 101, 115]))]), (.tup [(.cst (.str [110, 111]))]), (.tup [(.cst (.str [108, 101, 116, 116, 101, 114])), (.bltn .max [(.cst (.int 1)), (.var 1)])])]) (.idx (.lst [(.call 12 [(.var 0), (.cst (.int 3))]), (.call 12 [(.var 0), (.cst (.int 2))])]) (.blt .int (.cmp .eq (.var 1) (.cst (.int 0))))))] [], .ifs (.cmp .eq (.var 3) (.cst (.int 6))) [.ret (.tup [(.cst (.str [110, 111, 116])), (.call 13 [(.var 0), (.var 1), (.bin .sub (.var 2) (.cst (.int 1)))])])] [], .ifs (.cmp .lt (.var 3) (.cst (.int 9))) [.ret (.tup [(.idx (.lst [(.cst (.str [116, 104, 101, 110])), (.cst (.str [115, 97, 109, 101]))]) (.bin .sub (.var 3) (.cst (.int 7)))), (.call 13 [(.var 0), (.var 1), (.bin .sub (.var 2) (.cst (.int 1)))]), (.call 13 [(.var 0), (.var 1), (.bin .sub (.var 2) (.cst (.int 1)))])])] [], .asg (.name 4) (.blt .tuple (.lcp [5] (.name 5) .range1 [(.call 12 [(.var 0), (.cst (.int 4))])] [] (.call 13 [(.var 0), (.var 1), (.bin .sub (.var 2) (.cst (.int 1)))]))), .ifs (.cmp .lt (.var 3) (.cst (.int 11))) [.ret (.tup [(.idx (.lst [(.cst (.str [97, 108, 108])), (.cst (.str [115, 111, 109, 101]))]) (.bin .sub (.var 3) (.cst (.int 9)))), (.var 4)])] [], .ifs (.cmp .eq (.var 3) (.cst (.int 11))) [.ret (.tup [(.cst (.str [115, 117, 109])), (.bin .sub (.call 12 [(.var 0), (.cst (.int 9))]) (.cst (.int 3))), (.blt .tuple (.lcp [6] (.name 6) .seq [(.var 4)] [] (.tup [(.bin .sub (.call 12 [(.var 0), (.cst (.int 9))]) (.cst (.int 3))), (.var 6)])))])] [], .ret (.tup [(.idx (.lst [(.cst (.str [108, 101, 97, 115, 116])), (.cst (.str [109, 111, 115, 116])), (.cst (.str [106, 117, 115, 116]))]) (.call 12 [(.var 0), (.cst (.int 3))])), (.call 12 [(.var 0), (.cst (.int 4))]), (.var 4)])]
theorem t_law_saying : cBody 60 ⟨n_law_saying, defScope (top 30), fun _ => true, TT, 0⟩ (defBody (top 30)) = some b_law_saying := by kernel_rfl
def n_law_theory : List Str := ["state", "most", "many", "letters", "k"]
def b_law_theory : List IS := [.asg (.name 3) (.call 12 [(.var 0), (.bin .add (.var 1) (.cst (.int 1)))]), .ret (.tup [(.var 3), (.blt .tuple (.lcp [4] (.name 4) .range1 [(.call 12 [(.var 0), (.bin .add (.var 2) (.cst (.int 1)))])] [] (.call 13 [(.var 0), (.var 3), (.cst (.int 2))])))])]
theorem t_law_theory : cBody 60 ⟨n_law_theory, defScope (top 31), fun _ => true, TT, 0⟩ (defBody (top 31)) = some b_law_theory := by kernel_rfl
def n_law_rows : List Str := ["letters", "rows", "k", "longer", "row"]
def b_law_rows : List IS := [.asg (.name 1) (.lst [(.tup [])]), .for_ (.name 2) .range1 [(.var 0)] [.asg (.name 3) (.lst []), .for_ (.name 4) .seq [(.var 1)] [.ex (.met .extend 3 [(.lst [(.bin .add (.var 4) (.tup [(.cst (.int 0))])), (.bin .add (.var 4) (.tup [(.cst (.int 1))]))])])], .asg (.name 1) (.var 3)], .ret (.var 1)]
theorem t_law_rows : cBody 60 ⟨n_law_rows, defScope (top 32), fun _ => true, TT, 0⟩ (defBody (top 32)) = some b_law_rows := by kernel_rfl
def n_law_value : List Str := ["saying", "row", "kind", "many", "part", "weight"]
def b_law_value : List IS := [.asg (.name 2) (.idx (.var 0) (.cst (.int 0))), .ifs (.cmp .eq (.var 2) (.cst (.str [108, 101, 116, 116, 101, 114]))) [.ret (.cmp .eq (.idx (.var 1) (.bin .sub (.idx (.var 0) (.cst (.int 1))) (.cst (.int 1)))) (.cst (.int 1)))] [], .ifs (.cmp .isin (.var 2) (.lst [(.cst (.str [121, 101, 115])), (.cst (.str [110, 111]))])) [.ret (.cmp .eq (.var 2) (.cst (.str [121, 101, 115])))] [], .ifs (.cmp .eq (.var 2) (.cst (.str [110, 111, 116]))) [.ret (.not (.call 16 [(.idx (.var 0) (.cst (.int 1))), (.var 1)]))] [], .ifs (.cmp .eq (.var 2) (.cst (.str [116, 104, 101, 110]))) [.ret (.or (.call 16 [(.idx (.var 0) (.cst (.int 2))), (.var 1)]) (.not (.call 16 [(.idx (.var 0) (.cst (.int 1))), (.var 1)])))] [], .ifs (.cmp .eq (.var 2) (.cst (.str [115, 97, 109, 101]))) [.ret (.cmp .eq (.call 16 [(.idx (.var 0) (.cst (.int 1))), (.var 1)]) (.call 16 [(.idx (.var 0) (.cst (.int 2))), (.var 1)]))] [], .ifs (.cmp .eq (.var 2) (.cst (.str [115, 117, 109]))) [.ret (.cmp .ge (.blt .sum (.lcp [5, 4] (.tup [(.name 5), (.name 4)]) .seq [(.idx (.var 0) (.cst (.int 2)))] [] (.bin .mul (.var 5) (.blt .int (.call 16 [(.var 4), (.var 1)]))))) (.idx (.var 0) (.cst (.int 1))))] [], .asg (.name 3) (.blt .sum (.lcp [4] (.name 4) .seq [(.idx (.var 0) (.neg (.cst (.int 1))))] [] (.blt .int (.call 16 [(.var 4), (.var 1)])))), .ifs (.cmp .eq (.var 2) (.cst (.str [97, 108, 108]))) [.ret (.cmp .eq (.var 3) (.blt .len (.idx (.var 0) (.cst (.int 1)))))] [], .ifs (.cmp .eq (.var 2) (.cst (.str [115, 111, 109, 101]))) [.ret (.cmp .gt (.var 3) (.cst (.int 0)))] [], .ret (.idx (.dsp 0 [(.cst (.str [108, 101, 97, 115, 116])), (.cmp .ge (.var 3) (.idx (.var 0) (.cst (.int 1)))), (.cst (.str [109, 111, 115, 116])), (.cmp .le (.var 3) (.idx (.var 0) (.cst (.int 1)))), (.cst (.str [106, 117, 115, 116])), (.cmp .eq (.var 3) (.idx (.var 0) (.cst (.int 1))))]) (.var 2))]
theorem t_law_value : cBody 60 ⟨n_law_value, defScope (top 33), fun _ => true, TT, 0⟩ (defBody (top 33)) = some b_law_value := by kernel_rfl
def n_law_same : List Str := ["told", "due"]
def b_law_same : List IS := [.ret (.cmp .eq (.blt .repr (.lst [(.var 0)])) (.blt .repr (.lst [(.var 1)])))]
theorem t_law_same : cBody 60 ⟨n_law_same, defScope (top 34), fun _ => true, TT, 0⟩ (defBody (top 34)) = some b_law_same := by kernel_rfl
def n_law_odd_theory : List Str := ["state", "theory", "deep", "k", "wrong", "pick", "letters", "sayings"]
def b_law_odd_theory : List IS := [.asg (.tup [(.name 6), (.name 7)]) (.var 1), .asg (.name 2) (.tup [(.cst (.str [121, 101, 115]))]), .for_ (.name 3) .range1 [(.cst (.int 10))] [.asg (.name 2) (.tup [(.cst (.str [110, 111, 116])), (.var 2)])], .asg (.name 4) (.lst [(.tup []), (.tup [(.cst (.str [108, 101, 116, 116, 101, 114])), (.cst (.int 0))]), (.tup [(.cst (.str [108, 101, 116, 116, 101, 114])), (.bin .add (.var 6) (.cst (.int 1)))]), (.tup [(.cst (.str [108, 101, 116, 116, 101, 114]))]), (.tup [(.cst (.str [121, 101, 115])), (.cst (.int 1))]), (.tup [(.cst (.str [116, 104, 101, 110])), (.tup [(.cst (.str [121, 101, 115]))])]), (.tup [(.cst (.str [97, 108, 108]))]), (.tup [(.cst (.str [108, 101, 97, 115, 116])), (.cst (.int 1))]), (.tup [(.cst (.str [109, 97, 121, 98, 101]))])]), .asg (.name 4) (.bin .add (.var 4) (.lst [(.tup [(.cst (.str [115, 117, 109])), (.cst (.int 1)), (.tup [(.tup [(.cst (.int 1))])])]), (.tup [(.cst (.str [115, 117, 109])), (.cst (.int 1001)), (.tup [])]), (.tup [(.cst (.str [109, 111, 115, 116])), (.neg (.cst (.int 1001))), (.tup [])]), (.tup [(.cst (.str [115, 117, 109])), (.cst (.int 0)), (.tup [(.tup [(.cst (.int 1001)), (.tup [(.cst (.str [121, 101, 115]))])])])])])), .asg (.name 5) (.call 12 [(.var 0), (.cst (.int 17))]), .ifs (.cmp .lt (.var 5) (.cst (.int 13))) [.ret (.tup [(.tup [(.var 6), (.bin .add (.var 7) (.tup [(.idx (.var 4) (.var 5))]))]), (.cst (.str [114, 101, 102, 117, 115, 101, 100]))])] [], .ifs (.cmp .eq (.var 5) (.cst (.int 13))) [.ret (.tup [(.tup [(.neg (.cst (.int 1))), (.tup [])]), (.cst (.str [114, 101, 102, 117, 115, 101, 100]))])] [], .ret (.tup [(.idx (.lst [(.tup [(.cst (.int 21)), (.tup [])]), (.tup [(.var 6), (.bin .mul (.tup [(.tup [(.cst (.str [121, 101, 115]))])]) (.cst (.int 31)))]), (.tup [(.var 6), (.bin .add (.var 7) (.tup [(.var 2)]))])]) (.bin .sub (.var 5) (.cst (.int 14)))), (.cst (.str [108, 97, 114, 103, 101]))])]
theorem t_law_odd_theory : cBody 60 ⟨n_law_odd_theory, defScope (top 35), fun _ => true, TT, 0⟩ (defBody (top 35)) = some b_law_odd_theory := by kernel_rfl
def n_law_told : List Str := ["kind", "theory", "row", "e"]
def b_law_told : List IS := [.tryErr 3 [.ifs (.cmp .lt (.var 0) (.cst (.int 4))) [.ret (.tup [(.cst (.str [116, 111, 108, 100])), (.cals [4, 8, 9, 10] (.var 0) [(.var 1)])])] [], .ret (.tup [(.cst (.str [116, 111, 108, 100])), (.call 7 [(.var 1), (.var 2)])])]]
theorem t_law_told : cBody 60 ⟨n_law_told, defScope (top 36), fun _ => true, TT, 0⟩ (defBody (top 36)) = some b_law_told := by kernel_rfl
def n_law_within : List Str := ["saying", "kind", "weight", "part"]
def b_law_within : List IS := [.asg (.name 1) (.idx (.var 0) (.cst (.int 0))), .ifs (.cmp .isin (.var 1) (.lst [(.cst (.str [121, 101, 115])), (.cst (.str [110, 111])), (.cst (.str [108, 101, 116, 116, 101, 114]))])) [.ret (.lst [])] [], .ifs (.cmp .eq (.var 1) (.cst (.str [115, 117, 109]))) [.ret (.lcp [2, 3] (.tup [(.name 2), (.name 3)]) .seq [(.idx (.var 0) (.cst (.int 2)))] [] (.var 3))] [], .ifs (.cmp .isin (.var 1) (.lst [(.cst (.str [97, 108, 108])), (.cst (.str [115, 111, 109, 101])), (.cst (.str [108, 101, 97, 115, 116])), (.cst (.str [109, 111, 115, 116])), (.cst (.str [106, 117, 115, 116]))])) [.ret (.blt .list (.idx (.var 0) (.neg (.cst (.int 1)))))] [], .ret (.blt .list (.slc (.var 0) (.cst (.int 1)) (.cst .non)))]
theorem t_law_within : cBody 60 ⟨n_law_within, defScope (top 37), fun _ => true, TT, 0⟩ (defBody (top 37)) = some b_law_within := by kernel_rfl
def n_law_walk : List Str := ["saying", "found", "part"]
def b_law_walk : List IS := [.asg (.name 1) (.lst [(.var 0)]), .for_ (.name 2) .seq [(.call 20 [(.var 0)])] [.asg (.name 1) (.bin .add (.var 1) (.call 21 [(.var 2)]))], .ret (.var 1)]
theorem t_law_walk : cBody 60 ⟨n_law_walk, defScope (top 38), fun _ => true, TT, 0⟩ (defBody (top 38)) = some b_law_walk := by kernel_rfl
def n_law : List Str := ["script", "state", "turn", "wide", "k", "many", "ends", "theory", "kept", "every", "saying", "good", "names", "row", "letters", "sayings", "bad", "due", "one"]
def b_law : List IS := [.asg (.name 1) (.lst [(.call 11 [(.var 0)]), (.cst (.int 0))]), .for_ (.name 2) .range1 [(.cst (.int 8))] [.asg (.name 7) (.call 14 [(.var 1), (.cst (.int 5)), (.cst (.int 4))]), .asg (.name 8) (.blt .repr (.var 7)), .asg (.tup [(.name 14), (.name 15)]) (.var 7), .asg (.name 9) (.lst []), .for_ (.name 10) .seq [(.var 15)] [.asg (.name 9) (.bin .add (.var 9) (.call 21 [(.var 10)]))], .asg (.name 11) (.lcp [13] (.name 13) .seq [(.call 15 [(.var 14)])] [(.blt .all (.lcp [10] (.name 10) .seq [(.var 15)] [] (.call 16 [(.var 10), (.var 13)])))] (.var 13)), .asg (.name 12) (.blt .tuple (.sset (.lcp [18] (.name 18) .seq [(.var 9)] [(.cmp .eq (.idx (.var 18) (.cst (.int 0))) (.cst (.str [108, 101, 116, 116, 101, 114])))] (.idx (.var 18) (.cst (.int 1)))))), .ifs (.not (.call 17 [(.lcp [4] (.name 4) .range1 [(.cst (.int 4))] [] (.call 19 [(.var 4), (.var 7), (.cst (.int 0))])), (.lst [(.tup [(.cst (.str [116, 111, 108, 100])), (.cst .non)]), (.tup [(.cst (.str [116, 111, 108, 100])), (.var 11)]), (.tup [(.cst (.str [116, 111, 108, 100])), (.var 12)]), (.tup [(.cst (.str [116, 111, 108, 100])), (.blt .len (.var 9))])])])) [.ret (.cst (.bl false))] [], .for_ (.name 13) .seq [(.call 15 [(.var 14)])] [.ifs (.cmp .ne (.call 19 [(.cst (.int 4)), (.var 7), (.var 13)]) (.tup [(.cst (.str [116, 111, 108, 100])), (.cmp .isin (.var 13) (.var 11))])) [.ret (.cst (.bl false))] []], .asg (.name 13) (.bin .mul (.tup [(.cst (.int 0))]) (.var 14)), .ifs (.cmp .ne (.lcp [18] (.name 18) .seq [(.lst [(.bin .add (.var 13) (.tup [(.cst (.int 0))])), (.ite (.cmp .gt (.var 14) (.cst (.int 0))) (.bin .add (.tup [(.cst (.int 2))]) (.slc (.var 13) (.cst (.int 1)) (.cst .non))) (.tup [(.cst (.int 0))])), (.bin .mul (.tup [(.neg (.cst (.int 1)))]) (.bltn .max [(.cst (.int 1)), (.var 14)]))])] [] (.call 19 [(.cst (.int 4)), (.var 7), (.var 18)])) (.bin .mul (.lst [(.cst (.str [114, 101, 102, 117, 115, 101, 100]))]) (.cst (.int 3)))) [.ret (.cst (.bl false))] [], .asg (.tup [(.name 16), (.name 17)]) (.call 18 [(.var 1), (.var 7)]), .ifs (.or (.cmp .ne (.lcp [4] (.name 4) .range1 [(.cst (.int 5))] [] (.call 19 [(.var 4), (.var 16), (.tup [])])) (.bin .mul (.lst [(.var 17)]) (.cst (.int 5)))) (.cmp .ne (.blt .repr (.var 7)) (.var 8))) [.ret (.cst (.bl false))] []], .asg (.name 3) (.tup [(.cst (.str [121, 101, 115]))]), .for_ (.name 4) .range1 [(.cst (.int 9))] [.asg (.name 3) (.tup [(.cst (.str [110, 111, 116])), (.var 3)])], .asg (.name 5) (.tup [(.cst (.str [97, 108, 108])), (.bin .mul (.tup [(.tup [(.cst (.str [121, 101, 115]))])]) (.cst (.int 119)))]), .asg (.name 6) (.lst [(.call 19 [(.cst (.int 3)), (.tup [(.cst (.int 0)), (.tup [(.var 3)])]), (.cst (.int 0))]), (.call 19 [(.cst (.int 3)), (.tup [(.cst (.int 0)), (.tup [(.var 5)])]), (.cst (.int 0))]), (.call 19 [(.cst (.int 0)), (.tup [(.cst (.int 0)), (.tup [(.tup [(.cst (.str [97, 108, 108])), (.bin .mul (.tup [(.tup [(.cst (.str [121, 101, 115]))])]) (.cst (.int 120)))])])]), (.cst (.int 0))]), (.call 19 [(.cst (.int 1)), (.tup [(.cst (.int 15)), (.tup [])]), (.cst (.int 0))])]), .ret (.and (.cmp .eq (.var 6) (.lst [(.tup [(.cst (.str [116, 111, 108, 100])), (.cst (.int 10))]), (.tup [(.cst (.str [116, 111, 108, 100])), (.cst (.int 120))]), (.cst (.str [108, 97, 114, 103, 101])), (.cst (.str [108, 97, 114, 103, 101]))])) (.cmp .eq (.tup [(.gint "MAX_PARTS" 120), (.gint "MAX_DEPTH" 10), (.gint "MAX_OWN" 20), (.gint "MAX_SAYINGS" 30), (.gint "MAX_NUMBER" 1000)]) (.tup [(.cst (.int 120)), (.cst (.int 10)), (.cst (.int 20)), (.cst (.int 30)), (.cst (.int 1000))])))]
theorem t_law : cBody 60 ⟨n_law, defScope (top 39), fun _ => true, TT, 0⟩ (defBody (top 39)) = some b_law := by kernel_rfl
def TBL : List Fn := [⟨2, n_is_row.length, b_is_row⟩, ⟨1, n_all_rows.length, b_all_rows⟩, ⟨1, n_parts_of.length, b_parts_of⟩, ⟨2, n_is_kind.length, b_is_kind⟩, ⟨1, n_check_theory.length, b_check_theory⟩, ⟨2, n_check_saying.length, b_check_saying⟩, ⟨2, n_known_holds.length, b_known_holds⟩, ⟨2, n_holds.length, b_holds⟩, ⟨1, n_rows_that_hold.length, b_rows_that_hold⟩, ⟨1, n_letters_used.length, b_letters_used⟩, ⟨1, n_size_of.length, b_size_of⟩, ⟨1, n_law_stream.length, b_law_stream⟩, ⟨2, n_law_next.length, b_law_next⟩, ⟨3, n_law_saying.length, b_law_saying⟩, ⟨3, n_law_theory.length, b_law_theory⟩, ⟨1, n_law_rows.length, b_law_rows⟩, ⟨2, n_law_value.length, b_law_value⟩, ⟨2, n_law_same.length, b_law_same⟩, ⟨2, n_law_odd_theory.length, b_law_odd_theory⟩, ⟨3, n_law_told.length, b_law_told⟩, ⟨1, n_law_within.length, b_law_within⟩, ⟨1, n_law_walk.length, b_law_walk⟩, ⟨1, n_law.length, b_law⟩]
end Cw
set_option Elab.async false
set_option linter.all false
set_option maxRecDepth 100000
set_option maxHeartbeats 4000000
set_option autoImplicit false
/-! Cw, part Ev: how the evaluator is reckoned with -/
namespace Cw.Ev
open PySem L2

/-! ### slots -/
def getS (i : Nat) (s : Option Slot) (ρ : Rho) : R (Bool × PV) := match s with
  | some (some (.sh, d)) => .ok (false, d) ρ
  | some (some (.frp, d)) => .ok (false, d) ρ
  | some (some (.own, d)) => .ok (false, d) (ρ.set i (some (.sh, d)))
  | some (some (.par, d)) => .ok (false, d) (ρ.set i (some (.frp, d)))
  | _ => .bad
theorem getV_eq (i : Nat) (ρ : Rho) : getV i ρ = getS i ρ[i]? ρ := rfl
@[simp] theorem getS_sh (i : Nat) (d : PV) (ρ : Rho) : getS i (some (some (.sh, d))) ρ = .ok (false, d) ρ := rfl
@[simp] theorem getS_frp (i : Nat) (d : PV) (ρ : Rho) : getS i (some (some (.frp, d))) ρ = .ok (false, d) ρ := rfl
@[simp] theorem getS_own (i : Nat) (d : PV) (ρ : Rho) : getS i (some (some (.own, d))) ρ = .ok (false, d) (ρ.set i (some (.sh, d))) := rfl
@[simp] theorem getS_par (i : Nat) (d : PV) (ρ : Rho) : getS i (some (some (.par, d))) ρ = .ok (false, d) (ρ.set i (some (.frp, d))) := rfl
def peekS (s : Option Slot) (ρ : Rho) : R (Bool × PV) := match s with
  | some (some (.lnt, _)) => .bad
  | some (some (_, d)) => .ok (false, d) ρ
  | _ => .bad
theorem peekV_eq (i : Nat) (ρ : Rho) : peekV i ρ = peekS ρ[i]? ρ := rfl
@[simp] theorem peekS_sh (d : PV) (ρ : Rho) : peekS (some (some (.sh, d))) ρ = .ok (false, d) ρ := rfl
@[simp] theorem peekS_frp (d : PV) (ρ : Rho) : peekS (some (some (.frp, d))) ρ = .ok (false, d) ρ := rfl
@[simp] theorem peekS_own (d : PV) (ρ : Rho) : peekS (some (some (.own, d))) ρ = .ok (false, d) ρ := rfl
@[simp] theorem peekS_par (d : PV) (ρ : Rho) : peekS (some (some (.par, d))) ρ = .ok (false, d) ρ := rfl
def rpkS (s : Option Slot) : Option PV := match s with
  | some (some (.lnt, _)) => none
  | some (some (_, d')) => some d'
  | _ => none
@[simp] theorem rpkS_sh (d : PV) : rpkS (some (some (.sh, d))) = some d := rfl
@[simp] theorem rpkS_frp (d : PV) : rpkS (some (some (.frp, d))) = some d := rfl
@[simp] theorem rpkS_own (d : PV) : rpkS (some (some (.own, d))) = some d := rfl
@[simp] theorem rpkS_par (d : PV) : rpkS (some (some (.par, d))) = some d := rfl
def setS (i : Nat) (fr : Bool) (d : PV) (s : Option Slot) (ρ : Rho) : R Unit := match s with
  | some (some (.par, _)) => .bad
  | some (some (.frp, _)) => .bad
  | some (some (.lnt, _)) => .bad
  | some _ => .ok () (ρ.set i (some (if fr then .own else .sh, d)))
  | none => .bad
theorem setV_eq (i : Nat) (fr : Bool) (d : PV) (ρ : Rho) : setV i fr d ρ = setS i fr d ρ[i]? ρ := rfl
@[simp] theorem setS_none (i : Nat) (fr : Bool) (d : PV) (ρ : Rho) : setS i fr d (some none) ρ = .ok () (ρ.set i (some (if fr then .own else .sh, d))) := rfl
@[simp] theorem setS_sh (i : Nat) (fr : Bool) (d e : PV) (ρ : Rho) : setS i fr d (some (some (.sh, e))) ρ = .ok () (ρ.set i (some (if fr then .own else .sh, d))) := rfl
@[simp] theorem setS_own (i : Nat) (fr : Bool) (d e : PV) (ρ : Rho) : setS i fr d (some (some (.own, e))) ρ = .ok () (ρ.set i (some (if fr then .own else .sh, d))) := rfl
def tkS (i : Nat) (s : Option Slot) (ρ : Rho) : R ATok := match s with
  | some (some (.lnt, _)) => .bad
  | some (some (s, d)) => .ok (if s.mut then .slot i else .val d) ρ
  | _ => .bad
@[simp] theorem tkS_sh (i : Nat) (d : PV) (ρ : Rho) : tkS i (some (some (.sh, d))) ρ = .ok (.val d) ρ := rfl
@[simp] theorem tkS_frp (i : Nat) (d : PV) (ρ : Rho) : tkS i (some (some (.frp, d))) ρ = .ok (.val d) ρ := rfl
@[simp] theorem tkS_own (i : Nat) (d : PV) (ρ : Rho) : tkS i (some (some (.own, d))) ρ = .ok (.slot i) ρ := rfl
@[simp] theorem tkS_par (i : Nat) (d : PV) (ρ : Rho) : tkS i (some (some (.par, d))) ρ = .ok (.slot i) ρ := rfl
def asS (s : Option Slot) : Option Slot := match s with
  | some (some (.lnt, _)) => none
  | some (some (s, d)) => some (some (if s.mut then .par else .sh, d))
  | _ => none
@[simp] theorem asS_sh (d : PV) : asS (some (some (.sh, d))) = some (some (.sh, d)) := rfl
@[simp] theorem asS_frp (d : PV) : asS (some (some (.frp, d))) = some (some (.sh, d)) := rfl
@[simp] theorem asS_own (d : PV) : asS (some (some (.own, d))) = some (some (.par, d)) := rfl
@[simp] theorem asS_par (d : PV) : asS (some (some (.par, d))) = some (some (.par, d)) := rfl
@[simp] theorem argSlot_val (ρ : Rho) (d : PV) : argSlot ρ (.val d) = some (some (.sh, d)) := rfl
@[simp] theorem argSlot_slot (ρ : Rho) (i : Nat) : argSlot ρ (.slot i) = asS ρ[i]? := rfl
def asK (a : Option Slot) (b : Option (List Slot)) : Option (List Slot) := match a, b with | some a, some b => some (a :: b) | _, _ => none
@[simp] theorem asK_some (a : Slot) (b : List Slot) : asK (some a) (some b) = some (a :: b) := rfl
@[simp] theorem argSlots_nil (ρ : Rho) : argSlots ρ [] = some [] := rfl
@[simp] theorem argSlots_cons (ρ : Rho) (t : ATok) (ts : List ATok) : argSlots ρ (t :: ts) = asK (argSlot ρ t) (argSlots ρ ts) := rfl
def pbS (i : Nat) (o : Slot) (s : Option Slot) (ρ : Rho) : Rho := match s with
  | some (some (s, _)) => if s.mut then (match o with
      | some (.par, d) => ρ.set i (some (s, d))
      | some (.frp, d) => ρ.set i (some (s.frz, d))
      | _ => ρ.set i none) else ρ
  | _ => ρ
theorem pb_eq (i : Nat) (o : Slot) (ρ : Rho) : putBack1 i o ρ = pbS i o ρ[i]? ρ := rfl
@[simp] theorem pbS_own_par (i : Nat) (d e : PV) (ρ : Rho) : pbS i (some (.par, d)) (some (some (.own, e))) ρ = ρ.set i (some (.own, d)) := rfl
@[simp] theorem pbS_par_par (i : Nat) (d e : PV) (ρ : Rho) : pbS i (some (.par, d)) (some (some (.par, e))) ρ = ρ.set i (some (.par, d)) := rfl
@[simp] theorem pbS_own_frp (i : Nat) (d e : PV) (ρ : Rho) : pbS i (some (.frp, d)) (some (some (.own, e))) ρ = ρ.set i (some (.sh, d)) := rfl
@[simp] theorem pbS_par_frp (i : Nat) (d e : PV) (ρ : Rho) : pbS i (some (.frp, d)) (some (some (.par, e))) ρ = ρ.set i (some (.frp, d)) := rfl
@[simp] theorem putBack_slot (i : Nat) (ts : List ATok) (o : Slot) (os : List Slot) (ρ : Rho) : putBack (.slot i :: ts) (o :: os) ρ = putBack ts os (pbS i o ρ[i]? ρ) := rfl
@[simp] theorem putBack_val (d : PV) (ts : List ATok) (o : Slot) (os : List Slot) (ρ : Rho) : putBack (.val d :: ts) (o :: os) ρ = putBack ts os ρ := rfl
@[simp] theorem putBack_nil (os : List Slot) (ρ : Rho) : putBack [] os ρ = ρ := by cases os <;> rfl
@[simp] theorem slotIxs_nil : slotIxs [] = [] := rfl
@[simp] theorem slotIxs_val (d : PV) (ts : List ATok) : slotIxs (.val d :: ts) = slotIxs ts := rfl
@[simp] theorem slotIxs_slot (i : Nat) (ts : List ATok) : slotIxs (.slot i :: ts) = i :: slotIxs ts := rfl
@[simp] theorem nodupB_nil : nodupB [] = true := rfl
@[simp] theorem nodupB_one (i : Nat) : nodupB [i] = true := rfl
def callD (toks : List ATok) (ρ : Rho) (as : List Slot) : CR → R (Bool × PV)
  | .ok fr d outs => .ok (fr, d) (putBack toks outs ρ)
  | .exc c x => .exc c x (putBack toks (as.map fun _ => none) ρ)
  | .bad => .bad
@[simp] theorem callD_ok (toks : List ATok) (ρ : Rho) (as : List Slot) (fr : Bool) (d : PV) (outs : List Slot) : callD toks ρ as (.ok fr d outs) = .ok (fr, d) (putBack toks outs ρ) := rfl
@[simp] theorem callD_exc (toks : List ATok) (ρ : Rho) (as : List Slot) (c : Nat) (x : PV) : callD toks ρ as (.exc c x) = .exc c x (putBack toks (as.map fun _ => none) ρ) := rfl
def callA (C : CallSem) (f : Nat) (toks : List ATok) (ρ : Rho) : Option (List Slot) → R (Bool × PV)
  | none => .bad
  | some as => if nodupB (slotIxs toks) = true then callD toks ρ as (C f as) else .bad
theorem callR_eq (C : CallSem) (f : Nat) (toks : List ATok) (ρ : Rho) : callR C f toks ρ = callA C f toks ρ (argSlots ρ toks) := by
  unfold callR callA
  cases h : argSlots ρ toks with
  | none => rfl
  | some as =>
    dsimp only
    all_goals
      by_cases c : nodupB (slotIxs toks) = true
      · rw [if_pos c, if_pos c]
        cases C f as <;> rfl
      · rw [if_neg c, if_neg c]
@[simp] theorem callA_some (C : CallSem) (f : Nat) (toks : List ATok) (ρ : Rho) (as : List Slot) : callA C f toks ρ (some as) = if nodupB (slotIxs toks) = true then callD toks ρ as (C f as) else .bad := rfl

/-! ### values -/
@[simp] theorem tr_false (r : R (Bool × PV)) : tr false r = r := rfl
@[simp] theorem tr_true (f : Bool) (d : PV) (ρ : Rho) : tr true (.ok (f, d) ρ) = R.opt ((truth d).map fun b => (false, .bl b)) ρ := rfl
@[simp] theorem tr_exc (m : Bool) (c : Nat) (x : PV) (ρ : Rho) : tr m (.exc c x ρ) = .exc c x ρ := by cases m <;> rfl
@[simp] theorem truth_non : truth .non = some false := rfl
@[simp] theorem truth_bl (b : Bool) : truth (.bl b) = some b := rfl
@[simp] theorem truth_int (i : Int) : truth (.int i) = some (i != 0) := rfl
@[simp] theorem truth_tup (xs : List PV) : truth (.tup xs) = some (!xs.isEmpty) := rfl
@[simp] theorem truth_lst (xs : List PV) : truth (.lst xs) = some (!xs.isEmpty) := rfl
@[simp] theorem asB_bl (f c : Bool) (ρ : Rho) (g : Bool → R (Bool × PV)) : asB (f, .bl c) ρ g = g c := rfl
def kTup (ds : List PV) (ρ1 : Rho) : R (Bool × PV) := lenOk ds ρ1 (.ok (false, .tup ds) ρ1)
@[simp] theorem kTup_eq (ds : List PV) (ρ1 : Rho) : kTup ds ρ1 = lenOk ds ρ1 (.ok (false, .tup ds) ρ1) := rfl
def kCat (xs ds : List PV) (ρ2 : Rho) : R (Bool × PV) := lenOk (xs ++ ds) ρ2 (.ok (false, .tup (xs ++ ds)) ρ2)
@[simp] theorem kCat_eq (xs ds : List PV) (ρ2 : Rho) : kCat xs ds ρ2 = lenOk (xs ++ ds) ρ2 (.ok (false, .tup (xs ++ ds)) ρ2) := rfl
def kLst (ds : List PV) (ρ1 : Rho) : R (Bool × PV) := lenOk ds ρ1 (.ok (true, .lst ds) ρ1)
@[simp] theorem kLst_eq (ds : List PV) (ρ1 : Rho) : kLst ds ρ1 = lenOk ds ρ1 (.ok (true, .lst ds) ρ1) := rfl
def kTk (x : Bool × PV) (ρ1 : Rho) : R ATok := .ok (.val x.2) ρ1
@[simp] theorem kTk_eq (x : Bool × PV) (ρ1 : Rho) : kTk x ρ1 = .ok (.val x.2) ρ1 := rfl
def kL2 (x : Bool × PV) (ds : List PV) (ρ2 : Rho) : R (List PV) := .ok (x.2 :: ds) ρ2
@[simp] theorem kL2_eq (x : Bool × PV) (ds : List PV) (ρ2 : Rho) : kL2 x ds ρ2 = .ok (x.2 :: ds) ρ2 := rfl
def kL1 (C : CallSem) (es : List IE) (x : Bool × PV) (ρ1 : Rho) : R (List PV) := (evL C es ρ1).bind (kL2 x)
@[simp] theorem kL1_eq (C : CallSem) (es : List IE) (x : Bool × PV) (ρ1 : Rho) : kL1 C es x ρ1 = (evL C es ρ1).bind (kL2 x) := rfl
def kA2 (x : ATok) (ds : List ATok) (ρ2 : Rho) : R (List ATok) := .ok (x :: ds) ρ2
@[simp] theorem kA2_eq (x : ATok) (ds : List ATok) (ρ2 : Rho) : kA2 x ds ρ2 = .ok (x :: ds) ρ2 := rfl
def kA1 (C : CallSem) (es : List IE) (x : ATok) (ρ1 : Rho) : R (List ATok) := (evA C es ρ1).bind (kA2 x)
@[simp] theorem kA1_eq (C : CallSem) (es : List IE) (x : ATok) (ρ1 : Rho) : kA1 C es x ρ1 = (evA C es ρ1).bind (kA2 x) := rfl
def kF2 (x : Bool × PV) (ds : List (Bool × PV)) (ρ2 : Rho) : R (List (Bool × PV)) := .ok (x :: ds) ρ2
@[simp] theorem kF2_eq (x : Bool × PV) (ds : List (Bool × PV)) (ρ2 : Rho) : kF2 x ds ρ2 = .ok (x :: ds) ρ2 := rfl
def kF1 (C : CallSem) (es : List IE) (x : Bool × PV) (ρ1 : Rho) : R (List (Bool × PV)) := (evF C es ρ1).bind (kF2 x)
@[simp] theorem kF1_eq (C : CallSem) (es : List IE) (x : Bool × PV) (ρ1 : Rho) : kF1 C es x ρ1 = (evF C es ρ1).bind (kF2 x) := rfl
def kNx (u : Unit) (ρ1 : Rho) : R Fl := .ok .nx ρ1
@[simp] theorem kNx_eq (u : Unit) (ρ1 : Rho) : kNx u ρ1 = .ok .nx ρ1 := rfl
def kEx (x : Bool × PV) (ρ1 : Rho) : R Fl := .ok .nx ρ1
@[simp] theorem kEx_eq (x : Bool × PV) (ρ1 : Rho) : kEx x ρ1 = .ok .nx ρ1 := rfl
def kRet (x : Bool × PV) (ρ1 : Rho) : R Fl := .ok (.ret x.1 x.2) ρ1
@[simp] theorem kRet_eq (x : Bool × PV) (ρ1 : Rho) : kRet x ρ1 = .ok (.ret x.1 x.2) ρ1 := rfl
section
variable (C : CallSem)
@[simp] theorem pk_var (i : Nat) (r : R (Bool × PV)) (ρ : Rho) : pk (.var i) r ρ = peekS ρ[i]? ρ := rfl
@[simp] theorem rpk_var (i : Nat) (d : PV) (ρ : Rho) : rpk (.var i) d ρ = rpkS ρ[i]? := rfl
@[simp] theorem tk_var (i : Nat) (r : R (Bool × PV)) (ρ : Rho) : tk (.var i) r ρ = tkS i ρ[i]? ρ := rfl
@[simp] theorem pk_cst (v : PV) (r : R (Bool × PV)) (ρ : Rho) : pk (.cst v) r ρ = r := rfl
@[simp] theorem rpk_cst (v : PV) (d : PV) (ρ : Rho) : rpk (.cst v) d ρ = some d := rfl
@[simp] theorem tk_cst (v : PV) (r : R (Bool × PV)) (ρ : Rho) : tk (.cst v) r ρ = r.bind kTk := rfl
@[simp] theorem pk_gint (x : Str) (v : Int) (r : R (Bool × PV)) (ρ : Rho) : pk (.gint x v) r ρ = r := rfl
@[simp] theorem rpk_gint (x : Str) (v : Int) (d : PV) (ρ : Rho) : rpk (.gint x v) d ρ = some d := rfl
@[simp] theorem tk_gint (x : Str) (v : Int) (r : R (Bool × PV)) (ρ : Rho) : tk (.gint x v) r ρ = r.bind kTk := rfl
@[simp] theorem pk_tup (es : List IE) (r : R (Bool × PV)) (ρ : Rho) : pk (.tup es) r ρ = r := rfl
@[simp] theorem rpk_tup (es : List IE) (d : PV) (ρ : Rho) : rpk (.tup es) d ρ = some d := rfl
@[simp] theorem tk_tup (es : List IE) (r : R (Bool × PV)) (ρ : Rho) : tk (.tup es) r ρ = r.bind kTk := rfl
@[simp] theorem pk_tupS (e : IE) (es : List IE) (r : R (Bool × PV)) (ρ : Rho) : pk (.tupS e es) r ρ = r := rfl
@[simp] theorem rpk_tupS (e : IE) (es : List IE) (d : PV) (ρ : Rho) : rpk (.tupS e es) d ρ = some d := rfl
@[simp] theorem tk_tupS (e : IE) (es : List IE) (r : R (Bool × PV)) (ρ : Rho) : tk (.tupS e es) r ρ = r.bind kTk := rfl
@[simp] theorem pk_lst (es : List IE) (r : R (Bool × PV)) (ρ : Rho) : pk (.lst es) r ρ = r := rfl
@[simp] theorem rpk_lst (es : List IE) (d : PV) (ρ : Rho) : rpk (.lst es) d ρ = some d := rfl
@[simp] theorem tk_lst (es : List IE) (r : R (Bool × PV)) (ρ : Rho) : tk (.lst es) r ρ = r.bind kTk := rfl
@[simp] theorem pk_bin (op : BOp) (a b : IE) (r : R (Bool × PV)) (ρ : Rho) : pk (.bin op a b) r ρ = r := rfl
@[simp] theorem rpk_bin (op : BOp) (a b : IE) (d : PV) (ρ : Rho) : rpk (.bin op a b) d ρ = some d := rfl
@[simp] theorem tk_bin (op : BOp) (a b : IE) (r : R (Bool × PV)) (ρ : Rho) : tk (.bin op a b) r ρ = r.bind kTk := rfl
@[simp] theorem pk_neg (a : IE) (r : R (Bool × PV)) (ρ : Rho) : pk (.neg a) r ρ = r := rfl
@[simp] theorem rpk_neg (a : IE) (d : PV) (ρ : Rho) : rpk (.neg a) d ρ = some d := rfl
@[simp] theorem tk_neg (a : IE) (r : R (Bool × PV)) (ρ : Rho) : tk (.neg a) r ρ = r.bind kTk := rfl
@[simp] theorem pk_not (a : IE) (r : R (Bool × PV)) (ρ : Rho) : pk (.not a) r ρ = r := rfl
@[simp] theorem rpk_not (a : IE) (d : PV) (ρ : Rho) : rpk (.not a) d ρ = some d := rfl
@[simp] theorem tk_not (a : IE) (r : R (Bool × PV)) (ρ : Rho) : tk (.not a) r ρ = r.bind kTk := rfl
@[simp] theorem pk_isN (n : Bool) (a : IE) (r : R (Bool × PV)) (ρ : Rho) : pk (.isN n a) r ρ = r := rfl
@[simp] theorem rpk_isN (n : Bool) (a : IE) (d : PV) (ρ : Rho) : rpk (.isN n a) d ρ = some d := rfl
@[simp] theorem tk_isN (n : Bool) (a : IE) (r : R (Bool × PV)) (ρ : Rho) : tk (.isN n a) r ρ = r.bind kTk := rfl
@[simp] theorem pk_cmp (op : COp) (a b : IE) (r : R (Bool × PV)) (ρ : Rho) : pk (.cmp op a b) r ρ = r := rfl
@[simp] theorem rpk_cmp (op : COp) (a b : IE) (d : PV) (ρ : Rho) : rpk (.cmp op a b) d ρ = some d := rfl
@[simp] theorem tk_cmp (op : COp) (a b : IE) (r : R (Bool × PV)) (ρ : Rho) : tk (.cmp op a b) r ρ = r.bind kTk := rfl
@[simp] theorem pk_chain (o1 o2 : COp) (a b c : IE) (r : R (Bool × PV)) (ρ : Rho) : pk (.chain o1 o2 a b c) r ρ = r := rfl
@[simp] theorem rpk_chain (o1 o2 : COp) (a b c : IE) (d : PV) (ρ : Rho) : rpk (.chain o1 o2 a b c) d ρ = some d := rfl
@[simp] theorem tk_chain (o1 o2 : COp) (a b c : IE) (r : R (Bool × PV)) (ρ : Rho) : tk (.chain o1 o2 a b c) r ρ = r.bind kTk := rfl
@[simp] theorem pk_and (a b : IE) (r : R (Bool × PV)) (ρ : Rho) : pk (.and a b) r ρ = r := rfl
@[simp] theorem rpk_and (a b : IE) (d : PV) (ρ : Rho) : rpk (.and a b) d ρ = some d := rfl
@[simp] theorem tk_and (a b : IE) (r : R (Bool × PV)) (ρ : Rho) : tk (.and a b) r ρ = r.bind kTk := rfl
@[simp] theorem pk_or (a b : IE) (r : R (Bool × PV)) (ρ : Rho) : pk (.or a b) r ρ = r := rfl
@[simp] theorem rpk_or (a b : IE) (d : PV) (ρ : Rho) : rpk (.or a b) d ρ = some d := rfl
@[simp] theorem tk_or (a b : IE) (r : R (Bool × PV)) (ρ : Rho) : tk (.or a b) r ρ = r.bind kTk := rfl
@[simp] theorem pk_ite (c a b : IE) (r : R (Bool × PV)) (ρ : Rho) : pk (.ite c a b) r ρ = r := rfl
@[simp] theorem rpk_ite (c a b : IE) (d : PV) (ρ : Rho) : rpk (.ite c a b) d ρ = some d := rfl
@[simp] theorem tk_ite (c a b : IE) (r : R (Bool × PV)) (ρ : Rho) : tk (.ite c a b) r ρ = r.bind kTk := rfl
@[simp] theorem pk_idx (a i : IE) (r : R (Bool × PV)) (ρ : Rho) : pk (.idx a i) r ρ = r := rfl
@[simp] theorem rpk_idx (a i : IE) (d : PV) (ρ : Rho) : rpk (.idx a i) d ρ = some d := rfl
@[simp] theorem tk_idx (a i : IE) (r : R (Bool × PV)) (ρ : Rho) : tk (.idx a i) r ρ = r.bind kTk := rfl
@[simp] theorem pk_slc (a l h : IE) (r : R (Bool × PV)) (ρ : Rho) : pk (.slc a l h) r ρ = r := rfl
@[simp] theorem rpk_slc (a l h : IE) (d : PV) (ρ : Rho) : rpk (.slc a l h) d ρ = some d := rfl
@[simp] theorem tk_slc (a l h : IE) (r : R (Bool × PV)) (ρ : Rho) : tk (.slc a l h) r ρ = r.bind kTk := rfl
@[simp] theorem pk_call (f : Nat) (es : List IE) (r : R (Bool × PV)) (ρ : Rho) : pk (.call f es) r ρ = r := rfl
@[simp] theorem rpk_call (f : Nat) (es : List IE) (d : PV) (ρ : Rho) : rpk (.call f es) d ρ = some d := rfl
@[simp] theorem tk_call (f : Nat) (es : List IE) (r : R (Bool × PV)) (ρ : Rho) : tk (.call f es) r ρ = r.bind kTk := rfl
@[simp] theorem pk_cals (fs : List Nat) (i : IE) (es : List IE) (r : R (Bool × PV)) (ρ : Rho) : pk (.cals fs i es) r ρ = r := rfl
@[simp] theorem rpk_cals (fs : List Nat) (i : IE) (es : List IE) (d : PV) (ρ : Rho) : rpk (.cals fs i es) d ρ = some d := rfl
@[simp] theorem tk_cals (fs : List Nat) (i : IE) (es : List IE) (r : R (Bool × PV)) (ρ : Rho) : tk (.cals fs i es) r ρ = r.bind kTk := rfl
@[simp] theorem pk_blt (b : Bi) (e : IE) (r : R (Bool × PV)) (ρ : Rho) : pk (.blt b e) r ρ = r := rfl
@[simp] theorem rpk_blt (b : Bi) (e : IE) (d : PV) (ρ : Rho) : rpk (.blt b e) d ρ = some d := rfl
@[simp] theorem tk_blt (b : Bi) (e : IE) (r : R (Bool × PV)) (ρ : Rho) : tk (.blt b e) r ρ = r.bind kTk := rfl
@[simp] theorem pk_bltn (b : Bi) (es : List IE) (r : R (Bool × PV)) (ρ : Rho) : pk (.bltn b es) r ρ = r := rfl
@[simp] theorem rpk_bltn (b : Bi) (es : List IE) (d : PV) (ρ : Rho) : rpk (.bltn b es) d ρ = some d := rfl
@[simp] theorem tk_bltn (b : Bi) (es : List IE) (r : R (Bool × PV)) (ρ : Rho) : tk (.bltn b es) r ρ = r.bind kTk := rfl
@[simp] theorem pk_met (mi : Mi) (i : Nat) (es : List IE) (r : R (Bool × PV)) (ρ : Rho) : pk (.met mi i es) r ρ = r := rfl
@[simp] theorem rpk_met (mi : Mi) (i : Nat) (es : List IE) (d : PV) (ρ : Rho) : rpk (.met mi i es) d ρ = some d := rfl
@[simp] theorem tk_met (mi : Mi) (i : Nat) (es : List IE) (r : R (Bool × PV)) (ρ : Rho) : tk (.met mi i es) r ρ = r.bind kTk := rfl
@[simp] theorem pk_lcp (own : List Nat) (tg : Tg) (ik : Ik) (its cs : List IE) (e : IE) (r : R (Bool × PV)) (ρ : Rho) : pk (.lcp own tg ik its cs e) r ρ = r := rfl
@[simp] theorem rpk_lcp (own : List Nat) (tg : Tg) (ik : Ik) (its cs : List IE) (e : IE) (d : PV) (ρ : Rho) : rpk (.lcp own tg ik its cs e) d ρ = some d := rfl
@[simp] theorem tk_lcp (own : List Nat) (tg : Tg) (ik : Ik) (its cs : List IE) (e : IE) (r : R (Bool × PV)) (ρ : Rho) : tk (.lcp own tg ik its cs e) r ρ = r.bind kTk := rfl
@[simp] theorem pk_lcp2 (own own2 : List Nat) (tg : Tg) (ik : Ik) (its : List IE) (tg2 : Tg) (ik2 : Ik) (its2 cs : List IE) (e : IE) (r : R (Bool × PV)) (ρ : Rho) : pk (.lcp2 own own2 tg ik its tg2 ik2 its2 cs e) r ρ = r := rfl
@[simp] theorem rpk_lcp2 (own own2 : List Nat) (tg : Tg) (ik : Ik) (its : List IE) (tg2 : Tg) (ik2 : Ik) (its2 cs : List IE) (e : IE) (d : PV) (ρ : Rho) : rpk (.lcp2 own own2 tg ik its tg2 ik2 its2 cs e) d ρ = some d := rfl
@[simp] theorem tk_lcp2 (own own2 : List Nat) (tg : Tg) (ik : Ik) (its : List IE) (tg2 : Tg) (ik2 : Ik) (its2 cs : List IE) (e : IE) (r : R (Bool × PV)) (ρ : Rho) : tk (.lcp2 own own2 tg ik its tg2 ik2 its2 cs e) r ρ = r.bind kTk := rfl
@[simp] theorem pk_dsp (k : Nat) (es : List IE) (r : R (Bool × PV)) (ρ : Rho) : pk (.dsp k es) r ρ = r := rfl
@[simp] theorem rpk_dsp (k : Nat) (es : List IE) (d : PV) (ρ : Rho) : rpk (.dsp k es) d ρ = some d := rfl
@[simp] theorem tk_dsp (k : Nat) (es : List IE) (r : R (Bool × PV)) (ρ : Rho) : tk (.dsp k es) r ρ = r.bind kTk := rfl
@[simp] theorem pk_sset (e : IE) (r : R (Bool × PV)) (ρ : Rho) : pk (.sset e) r ρ = r := rfl
@[simp] theorem rpk_sset (e : IE) (d : PV) (ρ : Rho) : rpk (.sset e) d ρ = some d := rfl
@[simp] theorem tk_sset (e : IE) (r : R (Bool × PV)) (ρ : Rho) : tk (.sset e) r ρ = r.bind kTk := rfl
@[simp] theorem ev_cst (m : Bool) (v : PV) (ρ : Rho) : ev C m (.cst v) ρ = tr m (.ok (false, v) ρ) := rfl
@[simp] theorem ev_var_f (i : Nat) (ρ : Rho) : ev C false (.var i) ρ = getS i ρ[i]? ρ := rfl
@[simp] theorem ev_var_t (i : Nat) (ρ : Rho) : ev C true (.var i) ρ = tr true (peekS ρ[i]? ρ) := rfl
@[simp] theorem ev_gint (m : Bool) (x : Str) (v : Int) (ρ : Rho) : ev C m (.gint x v) ρ = tr m (.ok (false, .int v) ρ) := rfl
@[simp] theorem ev_tup (m : Bool) (es : List IE) (ρ : Rho) : ev C m (.tup es) ρ = tr m ((evL C es ρ).bind kTup) := rfl
def tupSK (C : CallSem) (es : List IE) (d : PV) (ρ1 : Rho) : R (Bool × PV) := match d with
  | .tup xs => (evL C es ρ1).bind fun ds ρ2 => lenOk (xs ++ ds) ρ2 (.ok (false, .tup (xs ++ ds)) ρ2)
  | _ => .bad
@[simp] theorem tupSK_tup (es : List IE) (xs : List PV) (ρ1 : Rho) : tupSK C es (.tup xs) ρ1 = (evL C es ρ1).bind (kCat xs) := rfl
def kTupS (C : CallSem) (es : List IE) (x : Bool × PV) (ρ1 : Rho) : R (Bool × PV) := tupSK C es x.2 ρ1
@[simp] theorem kTupS_eq (C : CallSem) (es : List IE) (x : Bool × PV) (ρ1 : Rho) : kTupS C es x ρ1 = tupSK C es x.2 ρ1 := rfl
@[simp] theorem ev_tupS (m : Bool) (e : IE) (es : List IE) (ρ : Rho) : ev C m (.tupS e es) ρ = tr m ((pk e (ev C false e ρ) ρ).bind (kTupS C es)) := rfl
@[simp] theorem ev_lst (m : Bool) (es : List IE) (ρ : Rho) : ev C m (.lst es) ρ = tr m ((evL C es ρ).bind kLst) := rfl
def binK (op : BOp) (o : Option PV) (d : PV) (ρ : Rho) : R (Bool × PV) := match o with
  | some x => R.opt (binV op x d) ρ
  | none => .bad
@[simp] theorem binK_some (op : BOp) (x d : PV) (ρ : Rho) : binK op (some x) d ρ = R.opt (binV op x d) ρ := rfl
def kBin2 (op : BOp) (a : IE) (x y : Bool × PV) (ρ2 : Rho) : R (Bool × PV) := binK op (rpk a x.2 ρ2) y.2 ρ2
@[simp] theorem kBin2_eq (op : BOp) (a : IE) (x y : Bool × PV) (ρ2 : Rho) : kBin2 op a x y ρ2 = binK op (rpk a x.2 ρ2) y.2 ρ2 := rfl
def kBin1 (C : CallSem) (op : BOp) (a b : IE) (x : Bool × PV) (ρ1 : Rho) : R (Bool × PV) := (pk b (ev C false b ρ1) ρ1).bind (kBin2 op a x)
@[simp] theorem kBin1_eq (C : CallSem) (op : BOp) (a b : IE) (x : Bool × PV) (ρ1 : Rho) : kBin1 C op a b x ρ1 = (pk b (ev C false b ρ1) ρ1).bind (kBin2 op a x) := rfl
@[simp] theorem ev_bin (m : Bool) (op : BOp) (a b : IE) (ρ : Rho) : ev C m (.bin op a b) ρ = tr m ((pk a (ev C false a ρ) ρ).bind (kBin1 C op a b)) := rfl
def negK (d : PV) (ρ : Rho) : R (Bool × PV) := match d with | .int i => .ok (false, .int (-i)) ρ | _ => .bad
@[simp] theorem negK_int (i : Int) (ρ : Rho) : negK (.int i) ρ = .ok (false, .int (-i)) ρ := rfl
def kNeg (x : Bool × PV) (ρ1 : Rho) : R (Bool × PV) := negK x.2 ρ1
@[simp] theorem kNeg_eq (x : Bool × PV) (ρ1 : Rho) : kNeg x ρ1 = negK x.2 ρ1 := rfl
@[simp] theorem ev_neg (m : Bool) (a : IE) (ρ : Rho) : ev C m (.neg a) ρ = tr m ((ev C false a ρ).bind kNeg) := rfl
def kNotT (x : Bool × PV) (ρ1 : Rho) : R (Bool × PV) := asB x ρ1 fun c => .ok (false, .bl (!c)) ρ1
@[simp] theorem kNotT_eq (f c : Bool) (ρ1 : Rho) : kNotT (f, .bl c) ρ1 = .ok (false, .bl (!c)) ρ1 := rfl
@[simp] theorem ev_not_t (a : IE) (ρ : Rho) : ev C true (.not a) ρ = (ev C true a ρ).bind kNotT := rfl
def kNotF (x : Bool × PV) (ρ1 : Rho) : R (Bool × PV) := R.opt ((truth x.2).map fun c => (false, .bl (!c))) ρ1
@[simp] theorem kNotF_eq (x : Bool × PV) (ρ1 : Rho) : kNotF x ρ1 = R.opt ((truth x.2).map fun c => (false, .bl (!c))) ρ1 := rfl
@[simp] theorem ev_not_f (a : IE) (ρ : Rho) : ev C false (.not a) ρ = (pk a (ev C false a ρ) ρ).bind kNotF := rfl
def kIsN (n : Bool) (x : Bool × PV) (ρ1 : Rho) : R (Bool × PV) := .ok (false, .bl (if n then !isNon x.2 else isNon x.2)) ρ1
@[simp] theorem kIsN_eq (n : Bool) (x : Bool × PV) (ρ1 : Rho) : kIsN n x ρ1 = .ok (false, .bl (if n then !isNon x.2 else isNon x.2)) ρ1 := rfl
@[simp] theorem ev_isN (m : Bool) (n : Bool) (a : IE) (ρ : Rho) : ev C m (.isN n a) ρ = tr m ((pk a (ev C false a ρ) ρ).bind (kIsN n)) := rfl
def cmpK (op : COp) (o : Option PV) (d : PV) (ρ : Rho) : R (Bool × PV) := match o with
  | some x => R.opt ((cmpV op x d).map fun c => (false, .bl c)) ρ
  | none => .bad
@[simp] theorem cmpK_some (op : COp) (x d : PV) (ρ : Rho) : cmpK op (some x) d ρ = R.opt ((cmpV op x d).map fun c => (false, .bl c)) ρ := rfl
def kCmp2 (op : COp) (a : IE) (x y : Bool × PV) (ρ2 : Rho) : R (Bool × PV) := cmpK op (rpk a x.2 ρ2) y.2 ρ2
@[simp] theorem kCmp2_eq (op : COp) (a : IE) (x y : Bool × PV) (ρ2 : Rho) : kCmp2 op a x y ρ2 = cmpK op (rpk a x.2 ρ2) y.2 ρ2 := rfl
def kCmp1 (C : CallSem) (op : COp) (a b : IE) (x : Bool × PV) (ρ1 : Rho) : R (Bool × PV) := (pk b (ev C false b ρ1) ρ1).bind (kCmp2 op a x)
@[simp] theorem kCmp1_eq (C : CallSem) (op : COp) (a b : IE) (x : Bool × PV) (ρ1 : Rho) : kCmp1 C op a b x ρ1 = (pk b (ev C false b ρ1) ρ1).bind (kCmp2 op a x) := rfl
@[simp] theorem ev_cmp (m : Bool) (op : COp) (a b : IE) (ρ : Rho) : ev C m (.cmp op a b) ρ = tr m ((pk a (ev C false a ρ) ρ).bind (kCmp1 C op a b)) := rfl
def kAnd (C : CallSem) (m : Bool) (b : IE) (x : Bool × PV) (ρ1 : Rho) : R (Bool × PV) := asB x ρ1 fun c => if c then ev C m b ρ1 else .ok (false, .bl false) ρ1
@[simp] theorem kAnd_eq (m : Bool) (b : IE) (f c : Bool) (ρ1 : Rho) : kAnd C m b (f, .bl c) ρ1 = if c = true then ev C m b ρ1 else .ok (false, .bl false) ρ1 := rfl
@[simp] theorem ev_and (m : Bool) (a b : IE) (ρ : Rho) : ev C m (.and a b) ρ = (ev C m a ρ).bind (kAnd C m b) := rfl
def kOr (C : CallSem) (m : Bool) (b : IE) (x : Bool × PV) (ρ1 : Rho) : R (Bool × PV) := asB x ρ1 fun c => if c then .ok (false, .bl true) ρ1 else ev C m b ρ1
@[simp] theorem kOr_eq (m : Bool) (b : IE) (f c : Bool) (ρ1 : Rho) : kOr C m b (f, .bl c) ρ1 = if c = true then .ok (false, .bl true) ρ1 else ev C m b ρ1 := rfl
@[simp] theorem ev_or (m : Bool) (a b : IE) (ρ : Rho) : ev C m (.or a b) ρ = (ev C m a ρ).bind (kOr C m b) := rfl
def kIte (C : CallSem) (m : Bool) (a b : IE) (x : Bool × PV) (ρ1 : Rho) : R (Bool × PV) := asB x ρ1 fun k => if k then ev C m a ρ1 else ev C m b ρ1
@[simp] theorem kIte_eq (m : Bool) (a b : IE) (f c : Bool) (ρ1 : Rho) : kIte C m a b (f, .bl c) ρ1 = if c = true then ev C m a ρ1 else ev C m b ρ1 := rfl
@[simp] theorem ev_ite (m : Bool) (c a b : IE) (ρ : Rho) : ev C m (.ite c a b) ρ = (ev C true c ρ).bind (kIte C m a b) := rfl
def idxK (o : Option PV) (d : PV) (ρ : Rho) : R (Bool × PV) := match o with
  | some x => R.opt ((idxV x d).map fun d => (false, d)) ρ
  | none => .bad
@[simp] theorem idxK_some (x d : PV) (ρ : Rho) : idxK (some x) d ρ = R.opt ((idxV x d).map fun d => (false, d)) ρ := rfl
def kIdx2 (a : IE) (x y : Bool × PV) (ρ2 : Rho) : R (Bool × PV) := idxK (rpk a x.2 ρ2) y.2 ρ2
@[simp] theorem kIdx2_eq (a : IE) (x y : Bool × PV) (ρ2 : Rho) : kIdx2 a x y ρ2 = idxK (rpk a x.2 ρ2) y.2 ρ2 := rfl
def kIdx1 (C : CallSem) (a i : IE) (x : Bool × PV) (ρ1 : Rho) : R (Bool × PV) := (pk i (ev C false i ρ1) ρ1).bind (kIdx2 a x)
@[simp] theorem kIdx1_eq (C : CallSem) (a i : IE) (x : Bool × PV) (ρ1 : Rho) : kIdx1 C a i x ρ1 = (pk i (ev C false i ρ1) ρ1).bind (kIdx2 a x) := rfl
@[simp] theorem ev_idx (m : Bool) (a i : IE) (ρ : Rho) : ev C m (.idx a i) ρ = tr m ((pk a (ev C false a ρ) ρ).bind (kIdx1 C a i)) := rfl
def slcK (o : Option PV) (l h : Option Int) (ρ : Rho) : R (Bool × PV) := match o with
  | some x => R.opt (slcV x l h) ρ
  | none => .bad
@[simp] theorem slcK_some (x : PV) (l h : Option Int) (ρ : Rho) : slcK (some x) l h ρ = R.opt (slcV x l h) ρ := rfl
def kSl3 (a : IE) (x : Bool × PV) (l h : Option Int) (ρ3 : Rho) : R (Bool × PV) := slcK (rpk a x.2 ρ3) l h ρ3
@[simp] theorem kSl3_eq (a : IE) (x : Bool × PV) (l h : Option Int) (ρ3 : Rho) : kSl3 a x l h ρ3 = slcK (rpk a x.2 ρ3) l h ρ3 := rfl
def kSl2 (C : CallSem) (a hi : IE) (x : Bool × PV) (l : Option Int) (ρ2 : Rho) : R (Bool × PV) := (sliceB hi (ev C false hi ρ2) ρ2).bind (kSl3 a x l)
@[simp] theorem kSl2_eq (C : CallSem) (a hi : IE) (x : Bool × PV) (l : Option Int) (ρ2 : Rho) : kSl2 C a hi x l ρ2 = (sliceB hi (ev C false hi ρ2) ρ2).bind (kSl3 a x l) := rfl
def kSl1 (C : CallSem) (a lo hi : IE) (x : Bool × PV) (ρ1 : Rho) : R (Bool × PV) := (sliceB lo (ev C false lo ρ1) ρ1).bind (kSl2 C a hi x)
@[simp] theorem kSl1_eq (C : CallSem) (a lo hi : IE) (x : Bool × PV) (ρ1 : Rho) : kSl1 C a lo hi x ρ1 = (sliceB lo (ev C false lo ρ1) ρ1).bind (kSl2 C a hi x) := rfl
@[simp] theorem ev_slc (m : Bool) (a lo hi : IE) (ρ : Rho) : ev C m (.slc a lo hi) ρ = tr m ((pk a (ev C false a ρ) ρ).bind (kSl1 C a lo hi)) := rfl
@[simp] theorem sliceB_non (r : R (Bool × PV)) (ρ : Rho) : sliceB (.cst .non) r ρ = .ok none ρ := rfl
@[simp] theorem sliceB_int (i : Int) (f : Bool) (k : Int) (ρ ρ1 : Rho) : sliceB (.cst (.int i)) (.ok (f, .int k) ρ1) ρ = .ok (some k) ρ1 := rfl
def kCall (C : CallSem) (f : Nat) (ts : List ATok) (ρ1 : Rho) : R (Bool × PV) := callA C f ts ρ1 (argSlots ρ1 ts)
@[simp] theorem kCall_eq (C : CallSem) (f : Nat) (ts : List ATok) (ρ1 : Rho) : kCall C f ts ρ1 = callA C f ts ρ1 (argSlots ρ1 ts) := rfl
@[simp] theorem ev_call (m : Bool) (f : Nat) (es : List IE) (ρ : Rho) : ev C m (.call f es) ρ = tr m ((evA C es ρ).bind (kCall C f)) := by
  have e : ev C m (.call f es) ρ = tr m ((evA C es ρ).bind fun ts ρ1 => callR C f ts ρ1) := rfl
  simp only [e, callR_eq]
  rfl
def chO (C : CallSem) (op2 : COp) (c : IE) (j : Int) (o : Option Bool) (ρ2 : Rho) : R (Bool × PV) := match o with
  | some true => (ev C false c ρ2).bind fun z ρ3 => (match z.2 with | .int k => R.opt ((cmpV op2 (.int j) (.int k)).map fun c => (false, .bl c)) ρ3 | _ => .bad)
  | some false => .ok (false, .bl false) ρ2
  | none => .bad
def kCh3 (op2 : COp) (j : Int) (z : Bool × PV) (ρ3 : Rho) : R (Bool × PV) := match z.2 with | .int k => R.opt ((cmpV op2 (.int j) (.int k)).map fun c => (false, .bl c)) ρ3 | _ => .bad
@[simp] theorem kCh3_int (op2 : COp) (j : Int) (f : Bool) (k : Int) (ρ3 : Rho) : kCh3 op2 j (f, .int k) ρ3 = R.opt ((cmpV op2 (.int j) (.int k)).map fun c => (false, .bl c)) ρ3 := rfl
@[simp] theorem chO_some (op2 : COp) (c : IE) (j : Int) (t : Bool) (ρ2 : Rho) : chO C op2 c j (some t) ρ2 = if t = true then (ev C false c ρ2).bind (kCh3 op2 j) else .ok (false, .bl false) ρ2 := by cases t <;> rfl
def chK (C : CallSem) (op1 op2 : COp) (c : IE) (d e : PV) (ρ2 : Rho) : R (Bool × PV) := match d, e with
  | .int i, .int j => chO C op2 c j (cmpV op1 (.int i) (.int j)) ρ2
  | _, _ => .bad
@[simp] theorem chK_int (op1 op2 : COp) (c : IE) (i j : Int) (ρ2 : Rho) : chK C op1 op2 c (.int i) (.int j) ρ2 = chO C op2 c j (cmpV op1 (.int i) (.int j)) ρ2 := rfl
def kCh2 (C : CallSem) (op1 op2 : COp) (c : IE) (x y : Bool × PV) (ρ2 : Rho) : R (Bool × PV) := chK C op1 op2 c x.2 y.2 ρ2
@[simp] theorem kCh2_eq (C : CallSem) (op1 op2 : COp) (c : IE) (x y : Bool × PV) (ρ2 : Rho) : kCh2 C op1 op2 c x y ρ2 = chK C op1 op2 c x.2 y.2 ρ2 := rfl
def kCh1 (C : CallSem) (op1 op2 : COp) (b c : IE) (x : Bool × PV) (ρ1 : Rho) : R (Bool × PV) := (ev C false b ρ1).bind (kCh2 C op1 op2 c x)
@[simp] theorem kCh1_eq (C : CallSem) (op1 op2 : COp) (b c : IE) (x : Bool × PV) (ρ1 : Rho) : kCh1 C op1 op2 b c x ρ1 = (ev C false b ρ1).bind (kCh2 C op1 op2 c x) := rfl
@[simp] theorem ev_chain (m : Bool) (op1 op2 : COp) (a b c : IE) (ρ : Rho) : ev C m (.chain op1 op2 a b c) ρ = tr m ((ev C false a ρ).bind (kCh1 C op1 op2 b c)) := rfl
def calsK (C : CallSem) (fs : List Nat) (es : List IE) (d : PV) (ρ1 : Rho) : R (Bool × PV) := match d with
  | .int k => (match ixAt fs k with
    | some f => (evA C es ρ1).bind fun ts ρ2 => callR C f ts ρ2
    | none => .bad)
  | _ => .bad
theorem calsK_at (fs : List Nat) (es : List IE) (k : Int) (f : Nat) (ρ1 : Rho) (h : ixAt fs k = some f) : calsK C fs es (.int k) ρ1 = (evA C es ρ1).bind (kCall C f) := by
  unfold calsK
  dsimp only
  rw [h]
  simp only [callR_eq]
  rfl
def kCals (C : CallSem) (fs : List Nat) (es : List IE) (x : Bool × PV) (ρ1 : Rho) : R (Bool × PV) := calsK C fs es x.2 ρ1
@[simp] theorem kCals_eq (C : CallSem) (fs : List Nat) (es : List IE) (x : Bool × PV) (ρ1 : Rho) : kCals C fs es x ρ1 = calsK C fs es x.2 ρ1 := rfl
@[simp] theorem ev_cals (m : Bool) (fs : List Nat) (i : IE) (es : List IE) (ρ : Rho) : ev C m (.cals fs i es) ρ = tr m ((ev C false i ρ).bind (kCals C fs es)) := rfl
def kBlt (b : Bi) (x : Bool × PV) (ρ1 : Rho) : R (Bool × PV) := R.opt (bltV b [x.2]) ρ1
@[simp] theorem kBlt_eq (b : Bi) (x : Bool × PV) (ρ1 : Rho) : kBlt b x ρ1 = R.opt (bltV b [x.2]) ρ1 := rfl
@[simp] theorem ev_blt (m : Bool) (b : Bi) (e : IE) (ρ : Rho) : ev C m (.blt b e) ρ = tr m ((pk e (ev C false e ρ) ρ).bind (kBlt b)) := rfl
def kBltn (b : Bi) (ds : List PV) (ρ1 : Rho) : R (Bool × PV) := R.opt (bltV b ds) ρ1
@[simp] theorem kBltn_eq (b : Bi) (ds : List PV) (ρ1 : Rho) : kBltn b ds ρ1 = R.opt (bltV b ds) ρ1 := rfl
@[simp] theorem ev_bltn (m : Bool) (b : Bi) (es : List IE) (ρ : Rho) : ev C m (.bltn b es) ρ = tr m ((evL C es ρ).bind (kBltn b)) := rfl
def kSset (x : Bool × PV) (ρ1 : Rho) : R (Bool × PV) := R.opt (ssetV x.2) ρ1
@[simp] theorem kSset_eq (x : Bool × PV) (ρ1 : Rho) : kSset x ρ1 = R.opt (ssetV x.2) ρ1 := rfl
@[simp] theorem ev_sset (m : Bool) (e : IE) (ρ : Rho) : ev C m (.sset e) ρ = tr m ((pk e (ev C false e ρ) ρ).bind kSset) := rfl
/-- the object's method, arguments told -/
def metE (mi : Mi) (i : Nat) (ds : List PV) (s : Option Slot) (ρ1 : Rho) : R (Bool × PV) := match s with
  | some (some (s, d)) => if s.mut then (match metV mi d ds with
    | some (r, d') => .ok r (ρ1.set i (some (s, d')))
    | none => .bad) else .bad
  | _ => .bad
def kMet (mi : Mi) (i : Nat) (ds : List PV) (ρ1 : Rho) : R (Bool × PV) := metE mi i ds ρ1[i]? ρ1
@[simp] theorem kMet_eq (mi : Mi) (i : Nat) (ds : List PV) (ρ1 : Rho) : kMet mi i ds ρ1 = metE mi i ds ρ1[i]? ρ1 := rfl
def metS (C : CallSem) (mi : Mi) (i : Nat) (es : List IE) (s : Option Slot) (ρ : Rho) : R (Bool × PV) := match s with
  | some (some (s0, d0)) => if s0.mut && metK mi d0 then (evL C es ρ).bind fun ds ρ1 => metE mi i ds ρ1[i]? ρ1 else .bad
  | _ => .bad
@[simp] theorem ev_met (m : Bool) (mi : Mi) (i : Nat) (es : List IE) (ρ : Rho) : ev C m (.met mi i es) ρ = tr m (metS C mi i es ρ[i]? ρ) := rfl
@[simp] theorem metS_own (mi : Mi) (i : Nat) (es : List IE) (d : PV) (ρ : Rho) : metS C mi i es (some (some (.own, d))) ρ = if metK mi d = true then (evL C es ρ).bind (kMet mi i) else .bad := rfl
@[simp] theorem metS_par (mi : Mi) (i : Nat) (es : List IE) (d : PV) (ρ : Rho) : metS C mi i es (some (some (.par, d))) ρ = if metK mi d = true then (evL C es ρ).bind (kMet mi i) else .bad := rfl
def metF (i : Nat) (s : Stt) (o : Option ((Bool × PV) × PV)) (ρ1 : Rho) : R (Bool × PV) := match o with
  | some (r, d') => .ok r (ρ1.set i (some (s, d')))
  | none => .bad
@[simp] theorem metF_some (i : Nat) (s : Stt) (r : Bool × PV) (d : PV) (ρ1 : Rho) : metF i s (some (r, d)) ρ1 = .ok r (ρ1.set i (some (s, d))) := rfl
@[simp] theorem metE_own (mi : Mi) (i : Nat) (ds : List PV) (d : PV) (ρ1 : Rho) : metE mi i ds (some (some (.own, d))) ρ1 = metF i .own (metV mi d ds) ρ1 := rfl
@[simp] theorem metE_par (mi : Mi) (i : Nat) (ds : List PV) (d : PV) (ρ1 : Rho) : metE mi i ds (some (some (.par, d))) ρ1 = metF i .par (metV mi d ds) ρ1 := rfl
@[simp] theorem metK_app (xs : List PV) : metK .append (.lst xs) = true := rfl
@[simp] theorem metK_ext (xs : List PV) : metK .extend (.lst xs) = true := rfl
@[simp] theorem metK_pop (xs : List PV) : metK .pop (.lst xs) = true := rfl
@[simp] theorem metK_upd (kvs : List (PV × PV)) : metK .update (.dct 0 kvs) = true := rfl
@[simp] theorem evL_nil (ρ : Rho) : evL C [] ρ = .ok [] ρ := rfl
@[simp] theorem evL_cons (e : IE) (es : List IE) (ρ : Rho) : evL C (e :: es) ρ = (ev C false e ρ).bind (kL1 C es) := rfl
@[simp] theorem evA_nil (ρ : Rho) : evA C [] ρ = .ok [] ρ := rfl
@[simp] theorem evA_cons (e : IE) (es : List IE) (ρ : Rho) : evA C (e :: es) ρ = (tk e (ev C false e ρ) ρ).bind (kA1 C es) := rfl
def tstK (f : Rho → R Bool) (d : PV) (ρ1 : Rho) : R Bool := match d with
  | .bl true => f ρ1
  | .bl false => .ok false ρ1
  | _ => .bad
@[simp] theorem tstK_bl (f : Rho → R Bool) (b : Bool) (ρ : Rho) : tstK f (.bl b) ρ = if b = true then f ρ else .ok false ρ := by cases b <;> rfl
@[simp] theorem evC_nil (ρ : Rho) : evC C [] ρ = .ok true ρ := rfl
def kC (C : CallSem) (es : List IE) (x : Bool × PV) (ρ1 : Rho) : R Bool := tstK (evC C es) x.2 ρ1
@[simp] theorem kC_eq (C : CallSem) (es : List IE) (x : Bool × PV) (ρ1 : Rho) : kC C es x ρ1 = tstK (evC C es) x.2 ρ1 := rfl
@[simp] theorem evC_cons (e : IE) (es : List IE) (ρ : Rho) : evC C (e :: es) ρ = (ev C true e ρ).bind (kC C es) := rfl
@[simp] theorem evF_nil (ρ : Rho) : evF C [] ρ = .ok [] ρ := rfl
@[simp] theorem evF_cons (e : IE) (es : List IE) (ρ : Rho) : evF C (e :: es) ρ = (ev C false e ρ).bind (kF1 C es) := rfl
/-! ### statements -/
noncomputable def contS (C : CallSem) (ss : List IS) (f : Fl) (ρ : Rho) : R Fl := match f with
  | .nx => exSs C ss ρ
  | f => .ok f ρ
@[simp] theorem contS_nx (ss : List IS) (ρ : Rho) : contS C ss .nx ρ = exSs C ss ρ := rfl
@[simp] theorem contS_brk (ss : List IS) (ρ : Rho) : contS C ss .brk ρ = .ok .brk ρ := rfl
@[simp] theorem contS_cnt (ss : List IS) (ρ : Rho) : contS C ss .cnt ρ = .ok .cnt ρ := rfl
@[simp] theorem contS_ret (ss : List IS) (fr : Bool) (d : PV) (ρ : Rho) : contS C ss (.ret fr d) ρ = .ok (.ret fr d) ρ := rfl
@[simp] theorem exSs_nil (ρ : Rho) : exSs C [] ρ = .ok .nx ρ := rfl
@[simp] theorem exSs_cons (s : IS) (ss : List IS) (ρ : Rho) : exSs C (s :: ss) ρ = (exS C s ρ).bind (contS C ss) := rfl
@[simp] theorem exS_ex (e : IE) (ρ : Rho) : exS C (.ex e) ρ = (ev C false e ρ).bind kEx := rfl
def kAsg (tg : Tg) (x : Bool × PV) (ρ1 : Rho) : R Fl := (asgT tg x ρ1).bind kNx
@[simp] theorem kAsg_eq (tg : Tg) (x : Bool × PV) (ρ1 : Rho) : kAsg tg x ρ1 = (asgT tg x ρ1).bind kNx := rfl
@[simp] theorem exS_asg (tg : Tg) (e : IE) (ρ : Rho) : exS C (.asg tg e) ρ = (ev C false e ρ).bind (kAsg tg) := rfl
@[simp] theorem asgT_name (i : Nat) (x : Bool × PV) (ρ : Rho) : asgT (.name i) x ρ = setS i x.1 x.2 ρ[i]? ρ := rfl
@[simp] theorem asgT_tup (ts : List Tg) (x : Bool × PV) (ρ : Rho) : asgT (.tup ts) x ρ = bindT (.tup ts) x.2 ρ := rfl
@[simp] theorem bindT_name (i : Nat) (d : PV) (ρ : Rho) : bindT (.name i) d ρ = setS i false d ρ[i]? ρ := rfl
@[simp] theorem bindT_tup (ts : List Tg) (ds : List PV) (ρ : Rho) : bindT (.tup ts) (.tup ds) ρ = if ds.length = ts.length then bindTs ts ds ρ else .bad := rfl
@[simp] theorem bindTs_nil (ds : List PV) (ρ : Rho) : bindTs [] ds ρ = .ok () ρ := by cases ds <;> rfl
def kB (ts : List Tg) (ds : List PV) (u : Unit) (ρ1 : Rho) : R Unit := bindTs ts ds ρ1
@[simp] theorem kB_eq (ts : List Tg) (ds : List PV) (u : Unit) (ρ1 : Rho) : kB ts ds u ρ1 = bindTs ts ds ρ1 := rfl
@[simp] theorem bindTs_cons (t : Tg) (ts : List Tg) (d : PV) (ds : List PV) (ρ : Rho) : bindTs (t :: ts) (d :: ds) ρ = (bindT t d ρ).bind (kB ts ds) := rfl
def kAsgs (is : List Nat) (xs : List (Bool × PV)) (ρ1 : Rho) : R Fl := (setVs is xs ρ1).bind kNx
@[simp] theorem kAsgs_eq (is : List Nat) (xs : List (Bool × PV)) (ρ1 : Rho) : kAsgs is xs ρ1 = (setVs is xs ρ1).bind kNx := rfl
@[simp] theorem exS_asgs (is : List Nat) (es : List IE) (ρ : Rho) : exS C (.asgs is es) ρ = if is.length = es.length then (evF C es ρ).bind (kAsgs is) else .bad := rfl
@[simp] theorem setVs_nil (xs : List (Bool × PV)) (ρ : Rho) : setVs [] xs ρ = .ok () ρ := by cases xs <;> rfl
def kSv (is : List Nat) (xs : List (Bool × PV)) (u : Unit) (ρ1 : Rho) : R Unit := setVs is xs ρ1
@[simp] theorem kSv_eq (is : List Nat) (xs : List (Bool × PV)) (u : Unit) (ρ1 : Rho) : kSv is xs u ρ1 = setVs is xs ρ1 := rfl
@[simp] theorem setVs_cons (i : Nat) (is : List Nat) (x : Bool × PV) (xs : List (Bool × PV)) (ρ : Rho) : setVs (i :: is) (x :: xs) ρ = (setS i x.1 x.2 ρ[i]? ρ).bind (kSv is xs) := rfl
def augK (i : Nat) (op : BOp) (d e : PV) (ρ1 : Rho) : R Fl := match d, e with
  | .int a, .int b => (R.opt (binV op (.int a) (.int b)) ρ1).bind fun z ρ2 => (setV i false z.2 ρ2).bind fun _ ρ3 => .ok .nx ρ3
  | _, _ => .bad
def kAug3 (i : Nat) (z : Bool × PV) (ρ2 : Rho) : R Fl := (setS i false z.2 ρ2[i]? ρ2).bind kNx
@[simp] theorem kAug3_eq (i : Nat) (z : Bool × PV) (ρ2 : Rho) : kAug3 i z ρ2 = (setS i false z.2 ρ2[i]? ρ2).bind kNx := rfl
@[simp] theorem augK_int (i : Nat) (op : BOp) (a b : Int) (ρ1 : Rho) : augK i op (.int a) (.int b) ρ1 = (R.opt (binV op (.int a) (.int b)) ρ1).bind (kAug3 i) := rfl
def kAug2 (i : Nat) (op : BOp) (x y : Bool × PV) (ρ1 : Rho) : R Fl := augK i op x.2 y.2 ρ1
@[simp] theorem kAug2_eq (i : Nat) (op : BOp) (x y : Bool × PV) (ρ1 : Rho) : kAug2 i op x y ρ1 = augK i op x.2 y.2 ρ1 := rfl
def kAug1 (C : CallSem) (i : Nat) (op : BOp) (e : IE) (ρ : Rho) (x : Bool × PV) (ρ0 : Rho) : R Fl := (ev C false e ρ).bind (kAug2 i op x)
@[simp] theorem kAug1_eq (C : CallSem) (i : Nat) (op : BOp) (e : IE) (ρ : Rho) (x : Bool × PV) (ρ0 : Rho) : kAug1 C i op e ρ x ρ0 = (ev C false e ρ).bind (kAug2 i op x) := rfl
@[simp] theorem exS_aug (i : Nat) (op : BOp) (e : IE) (ρ : Rho) : exS C (.aug i op e) ρ = (peekS ρ[i]? ρ).bind (kAug1 C i op e ρ) := by
  rfl
def setiK (i : Nat) (k v : PV) (s : Option Slot) (ρ2 : Rho) : R Fl := match s with
  | some (some (s, d)) => if s.mut then (match setI d k v with
      | some d' => .ok .nx (ρ2.set i (some (s, d')))
      | none => .bad) else .bad
  | _ => .bad
def setiF (i : Nat) (s : Stt) (o : Option PV) (ρ2 : Rho) : R Fl := match o with
  | some d' => .ok .nx (ρ2.set i (some (s, d')))
  | none => .bad
@[simp] theorem setiF_some (i : Nat) (s : Stt) (d : PV) (ρ2 : Rho) : setiF i s (some d) ρ2 = .ok .nx (ρ2.set i (some (s, d))) := rfl
@[simp] theorem setiK_own (i : Nat) (k v d : PV) (ρ : Rho) : setiK i k v (some (some (.own, d))) ρ = setiF i .own (setI d k v) ρ := rfl
@[simp] theorem setiK_par (i : Nat) (k v d : PV) (ρ : Rho) : setiK i k v (some (some (.par, d))) ρ = setiF i .par (setI d k v) ρ := rfl
def kSi3 (i : Nat) (v k : Bool × PV) (ρ2 : Rho) : R Fl := setiK i k.2 v.2 ρ2[i]? ρ2
@[simp] theorem kSi3_eq (i : Nat) (v k : Bool × PV) (ρ2 : Rho) : kSi3 i v k ρ2 = setiK i k.2 v.2 ρ2[i]? ρ2 := rfl
def kSi2 (C : CallSem) (i : Nat) (ix : IE) (v u : Bool × PV) (ρ1 : Rho) : R Fl := (ev C false ix ρ1).bind (kSi3 i v)
@[simp] theorem kSi2_eq (C : CallSem) (i : Nat) (ix : IE) (v u : Bool × PV) (ρ1 : Rho) : kSi2 C i ix v u ρ1 = (ev C false ix ρ1).bind (kSi3 i v) := rfl
def kSi1 (C : CallSem) (i : Nat) (ix : IE) (v : Bool × PV) (ρ1 : Rho) : R Fl := (peekS ρ1[i]? ρ1).bind (kSi2 C i ix v)
@[simp] theorem kSi1_eq (C : CallSem) (i : Nat) (ix : IE) (v : Bool × PV) (ρ1 : Rho) : kSi1 C i ix v ρ1 = (peekS ρ1[i]? ρ1).bind (kSi2 C i ix v) := rfl
@[simp] theorem exS_seti (i : Nat) (ix e : IE) (ρ : Rho) : exS C (.seti i ix e) ρ = (ev C false e ρ).bind (kSi1 C i ix) := rfl
noncomputable def ifK (C : CallSem) (a b : List IS) (d : PV) (ρ1 : Rho) : R Fl := match d with
  | .bl true => exSs C a ρ1
  | .bl false => exSs C b ρ1
  | _ => .bad
@[simp] theorem ifK_bl (a b : List IS) (k : Bool) (ρ : Rho) : ifK C a b (.bl k) ρ = if k = true then exSs C a ρ else exSs C b ρ := by cases k <;> rfl
noncomputable def kIf (C : CallSem) (a b : List IS) (x : Bool × PV) (ρ1 : Rho) : R Fl := ifK C a b x.2 ρ1
@[simp] theorem kIf_eq (C : CallSem) (a b : List IS) (x : Bool × PV) (ρ1 : Rho) : kIf C a b x ρ1 = ifK C a b x.2 ρ1 := rfl
@[simp] theorem exS_ifs (c : IE) (a b : List IS) (ρ : Rho) : exS C (.ifs c a b) ρ = (ev C true c ρ).bind (kIf C a b) := rfl
def retS (C : CallSem) (i : Nat) (s : Option Slot) (ρ : Rho) : R Fl := match s with
  | some (some (.own, d)) => .ok (.ret true d) (ρ.set i none)
  | s => (getS i s ρ).bind fun x ρ1 => .ok (.ret x.1 x.2) ρ1
@[simp] theorem retS_own (i : Nat) (d : PV) (ρ : Rho) : retS C i (some (some (.own, d))) ρ = .ok (.ret true d) (ρ.set i none) := rfl
@[simp] theorem retS_sh (i : Nat) (d : PV) (ρ : Rho) : retS C i (some (some (.sh, d))) ρ = .ok (.ret false d) ρ := rfl
@[simp] theorem exS_ret_var (i : Nat) (ρ : Rho) : exS C (.ret (.var i)) ρ = retS C i ρ[i]? ρ := by
  show ((retV (.var i) (getV i ρ) ρ).bind fun x ρ1 => R.ok (Fl.ret x.1 x.2) ρ1) = _
  rw [getV_eq]
  unfold retV retS
  dsimp only
  generalize ρ[i]? = s
  rcases s with _ | _ | ⟨s, d⟩ <;> first | rfl | (cases s <;> rfl)
theorem exS_ret (e : IE) (ρ : Rho) (h : ∀ i, e ≠ .var i) : exS C (.ret e) ρ = (ev C false e ρ).bind fun x ρ1 => .ok (.ret x.1 x.2) ρ1 := by
  show ((retV e (ev C false e ρ) ρ).bind fun x ρ1 => R.ok (Fl.ret x.1 x.2) ρ1) = _
  cases e <;> first | rfl | exact absurd rfl (h _)
@[simp] theorem exS_retN (ρ : Rho) : exS C .retN ρ = .ok (.ret false .non) ρ := rfl
@[simp] theorem exS_raise (c : Nat) (ρ : Rho) : exS C (.raise c) ρ = .exc c .non ρ := rfl
@[simp] theorem exS_pass (ρ : Rho) : exS C .pass ρ = .ok .nx ρ := rfl
@[simp] theorem exS_brk (ρ : Rho) : exS C .brk ρ = .ok .brk ρ := rfl
@[simp] theorem exS_cnt (ρ : Rho) : exS C .cnt ρ = .ok .cnt ρ := rfl
@[simp] theorem exS_ret_cst (v : PV) (ρ : Rho) : exS C (.ret (.cst v)) ρ = (ev C false (.cst v) ρ).bind kRet := rfl
@[simp] theorem exS_ret_gint (x : Str) (v : Int) (ρ : Rho) : exS C (.ret (.gint x v)) ρ = (ev C false (.gint x v) ρ).bind kRet := rfl
@[simp] theorem exS_ret_tup (es : List IE) (ρ : Rho) : exS C (.ret (.tup es)) ρ = (ev C false (.tup es) ρ).bind kRet := rfl
@[simp] theorem exS_ret_tupS (e : IE) (es : List IE) (ρ : Rho) : exS C (.ret (.tupS e es)) ρ = (ev C false (.tupS e es) ρ).bind kRet := rfl
@[simp] theorem exS_ret_lst (es : List IE) (ρ : Rho) : exS C (.ret (.lst es)) ρ = (ev C false (.lst es) ρ).bind kRet := rfl
@[simp] theorem exS_ret_bin (op : BOp) (a b : IE) (ρ : Rho) : exS C (.ret (.bin op a b)) ρ = (ev C false (.bin op a b) ρ).bind kRet := rfl
@[simp] theorem exS_ret_neg (a : IE) (ρ : Rho) : exS C (.ret (.neg a)) ρ = (ev C false (.neg a) ρ).bind kRet := rfl
@[simp] theorem exS_ret_not (a : IE) (ρ : Rho) : exS C (.ret (.not a)) ρ = (ev C false (.not a) ρ).bind kRet := rfl
@[simp] theorem exS_ret_isN (n : Bool) (a : IE) (ρ : Rho) : exS C (.ret (.isN n a)) ρ = (ev C false (.isN n a) ρ).bind kRet := rfl
@[simp] theorem exS_ret_cmp (op : COp) (a b : IE) (ρ : Rho) : exS C (.ret (.cmp op a b)) ρ = (ev C false (.cmp op a b) ρ).bind kRet := rfl
@[simp] theorem exS_ret_chain (o1 o2 : COp) (a b c : IE) (ρ : Rho) : exS C (.ret (.chain o1 o2 a b c)) ρ = (ev C false (.chain o1 o2 a b c) ρ).bind kRet := rfl
@[simp] theorem exS_ret_and (a b : IE) (ρ : Rho) : exS C (.ret (.and a b)) ρ = (ev C false (.and a b) ρ).bind kRet := rfl
@[simp] theorem exS_ret_or (a b : IE) (ρ : Rho) : exS C (.ret (.or a b)) ρ = (ev C false (.or a b) ρ).bind kRet := rfl
@[simp] theorem exS_ret_ite (c a b : IE) (ρ : Rho) : exS C (.ret (.ite c a b)) ρ = (ev C false (.ite c a b) ρ).bind kRet := rfl
@[simp] theorem exS_ret_idx (a i : IE) (ρ : Rho) : exS C (.ret (.idx a i)) ρ = (ev C false (.idx a i) ρ).bind kRet := rfl
@[simp] theorem exS_ret_slc (a l h : IE) (ρ : Rho) : exS C (.ret (.slc a l h)) ρ = (ev C false (.slc a l h) ρ).bind kRet := rfl
@[simp] theorem exS_ret_call (f : Nat) (es : List IE) (ρ : Rho) : exS C (.ret (.call f es)) ρ = (ev C false (.call f es) ρ).bind kRet := rfl
@[simp] theorem exS_ret_cals (fs : List Nat) (i : IE) (es : List IE) (ρ : Rho) : exS C (.ret (.cals fs i es)) ρ = (ev C false (.cals fs i es) ρ).bind kRet := rfl
@[simp] theorem exS_ret_blt (b : Bi) (e : IE) (ρ : Rho) : exS C (.ret (.blt b e)) ρ = (ev C false (.blt b e) ρ).bind kRet := rfl
@[simp] theorem exS_ret_bltn (b : Bi) (es : List IE) (ρ : Rho) : exS C (.ret (.bltn b es)) ρ = (ev C false (.bltn b es) ρ).bind kRet := rfl
@[simp] theorem exS_ret_lcp (own : List Nat) (tg : Tg) (ik : Ik) (its cs : List IE) (e : IE) (ρ : Rho) : exS C (.ret (.lcp own tg ik its cs e)) ρ = (ev C false (.lcp own tg ik its cs e) ρ).bind kRet := rfl
@[simp] theorem exS_ret_sset (e : IE) (ρ : Rho) : exS C (.ret (.sset e)) ρ = (ev C false (.sset e) ρ).bind kRet := rfl
@[simp] theorem lenOk_le (ds : List PV) (ρ : Rho) (r : R (Bool × PV)) : lenOk ds ρ r = if ds.length ≤ 16777216 then r else .bad := rfl
end
noncomputable def callE (np : Nat) (args : List Slot) : R Fl → CR
  | .ok (.ret fr d) ρ => if (!fr || pinsOk args ρ) = true then .ok fr d (outsOf np ρ) else .bad
  | .ok .nx ρ => .ok false .non (outsOf np ρ)
  | .exc c x _ => .exc c x
  | _ => .bad
@[simp] theorem callF_eq (np nn : Nat) (body : List IS) (C : CallSem) (args : List Slot) : callF ⟨np, nn, body⟩ C args = if args.length = np ∧ argsOk args = true then callE np args (exSs C body (args ++ List.replicate (nn - np) none)) else .bad := by
  unfold callF callE
  dsimp only
  all_goals
    by_cases c : args.length = np ∧ argsOk args = true
    · rw [if_pos c, if_pos c]
      cases exSs C body (args ++ List.replicate (nn - np) none) with
      | ok f ρ => cases f <;> rfl
      | exc c x ρ => rfl
      | bad => rfl
    · rw [if_neg c, if_neg c]
@[simp] theorem callE_sh (np : Nat) (args : List Slot) (d : PV) (ρ : Rho) : callE np args (.ok (.ret false d) ρ) = .ok false d (outsOf np ρ) := rfl
@[simp] theorem callE_fr (np : Nat) (args : List Slot) (d : PV) (ρ : Rho) : callE np args (.ok (.ret true d) ρ) = if pinsOk args ρ = true then .ok true d (outsOf np ρ) else .bad := rfl
@[simp] theorem callE_nx (np : Nat) (args : List Slot) (ρ : Rho) : callE np args (.ok .nx ρ) = .ok false .non (outsOf np ρ) := rfl
@[simp] theorem callE_exc (np : Nat) (args : List Slot) (c : Nat) (x : PV) (ρ : Rho) : callE np args (.exc c x ρ) = .exc c x := rfl
@[simp] theorem argsOk_nil : argsOk [] = true := rfl
@[simp] theorem argsOk_sh (d : PV) (as : List Slot) : argsOk (some (.sh, d) :: as) = argsOk as := rfl
@[simp] theorem argsOk_par (d : PV) (as : List Slot) : argsOk (some (.par, d) :: as) = argsOk as := rfl
@[simp] theorem pinsOk_nil (ρ : Rho) : pinsOk [] ρ = true := by cases ρ <;> rfl
@[simp] theorem pinsOk_sh (d : PV) (as : List Slot) (r : Slot) (ρ : Rho) : pinsOk (some (.sh, d) :: as) (r :: ρ) = pinsOk as ρ := rfl
@[simp] theorem pinsOk_par (d e : PV) (as : List Slot) (ρ : Rho) : pinsOk (some (.par, d) :: as) (some (.par, e) :: ρ) = pinsOk as ρ := rfl
@[simp] theorem outSlot_par (d : PV) : outSlot (some (.par, d)) = some (.par, d) := rfl
@[simp] theorem outSlot_frp (d : PV) : outSlot (some (.frp, d)) = some (.frp, d) := rfl
@[simp] theorem outSlot_sh (d : PV) : outSlot (some (.sh, d)) = none := rfl
@[simp] theorem outSlot_own (d : PV) : outSlot (some (.own, d)) = none := rfl
@[simp] theorem outSlot_no : outSlot none = none := rfl
@[simp] theorem outsOf_1 (a : Slot) (ρ : Rho) : outsOf 1 (a :: ρ) = [outSlot a] := rfl
@[simp] theorem outsOf_2 (a b : Slot) (ρ : Rho) : outsOf 2 (a :: b :: ρ) = [outSlot a, outSlot b] := rfl
@[simp] theorem outsOf_3 (a b c : Slot) (ρ : Rho) : outsOf 3 (a :: b :: c :: ρ) = [outSlot a, outSlot b, outSlot c] := rfl
@[simp] theorem ixAt_0 {α : Type} (x : α) (xs : List α) : ixAt (x :: xs) 0 = some x := by
  unfold ixAt; simp
@[simp] theorem ixAt_1 {α : Type} (x y : α) (xs : List α) : ixAt (x :: y :: xs) 1 = some y := by
  unfold ixAt; simp
  omega
@[simp] theorem ixAt_2 {α : Type} (x y z : α) (xs : List α) : ixAt (x :: y :: z :: xs) 2 = some z := by
  unfold ixAt; simp
  omega
@[simp] theorem ixAt_m2 {α : Type} (x y : α) : ixAt [x, y] (-1) = some y := rfl
@[simp] theorem ixAt_m3 {α : Type} (x y z : α) : ixAt [x, y, z] (-1) = some z := rfl
@[simp] theorem idxV_tup (xs : List PV) (i : Int) : idxV (.tup xs) (.int i) = ixAt xs i := rfl
@[simp] theorem idxV_lst (xs : List PV) (i : Int) : idxV (.lst xs) (.int i) = ixAt xs i := rfl
@[simp] theorem binV_add (i j : Int) : binV .add (.int i) (.int j) = some (false, .int (i + j)) := rfl
@[simp] theorem binV_sub (i j : Int) : binV .sub (.int i) (.int j) = some (false, .int (i - j)) := rfl
@[simp] theorem binV_mul (i j : Int) : binV .mul (.int i) (.int j) = if (-(2 ^ 64) < i ∧ i < 2 ^ 64) ∨ (-(2 ^ 64) < j ∧ j < 2 ^ 64) then some (false, .int (i * j)) else none := rfl
@[simp] theorem binV_fdiv (i j : Int) : binV .fdiv (.int i) (.int j) = if j ≠ 0 ∧ j.natAbs < 1073741824 then some (false, .int (i.fdiv j)) else none := rfl
@[simp] theorem binV_mod (i j : Int) : binV .mod (.int i) (.int j) = if j ≠ 0 then some (false, .int (i.fmod j)) else none := rfl
@[simp] theorem cmp_lt (i j : Int) : cmpV .lt (.int i) (.int j) = some (decide (i < j)) := rfl
@[simp] theorem cmp_le (i j : Int) : cmpV .le (.int i) (.int j) = some (decide (i ≤ j)) := rfl
@[simp] theorem cmp_gt (i j : Int) : cmpV .gt (.int i) (.int j) = some (decide (j < i)) := rfl
@[simp] theorem cmp_ge (i j : Int) : cmpV .ge (.int i) (.int j) = some (decide (j ≤ i)) := rfl
@[simp] theorem cmp_eq_int (i j : Int) : cmpV .eq (.int i) (.int j) = some (i == j) := rfl
@[simp] theorem cmp_ne_int (i j : Int) : cmpV .ne (.int i) (.int j) = some (!(i == j)) := rfl
@[simp] theorem cmp_eq_str (i j : List Nat) : cmpV .eq (.str i) (.str j) = some (i == j) := rfl
@[simp] theorem cmp_ne_str (i j : List Nat) : cmpV .ne (.str i) (.str j) = some (!(i == j)) := rfl
@[simp] theorem cmp_eq_bl (i j : Bool) : cmpV .eq (.bl i) (.bl j) = some (i == j) := rfl
@[simp] theorem cmp_ne_bl (i j : Bool) : cmpV .ne (.bl i) (.bl j) = some (!(i == j)) := rfl
@[simp] theorem eqS_str (i j : List Nat) : eqS (.str i) (.str j) = (i == j) := rfl
@[simp] theorem eqS_int (i j : Int) : eqS (.int i) (.int j) = (i == j) := rfl
@[simp] theorem isScal_str (i : List Nat) : isScal (.str i) = true := rfl
@[simp] theorem isScal_int (i : Int) : isScal (.int i) = true := rfl
@[simp] theorem cmp_in_tup (x : PV) (ys : List PV) : cmpV .isin x (.tup ys) = if (isScal x && ys.all isScal) = true then some (ys.any fun y => eqS y x) else none := rfl
@[simp] theorem cmp_notin_tup (x : PV) (ys : List PV) : cmpV .notin x (.tup ys) = if (isScal x && ys.all isScal) = true then some (!(ys.any fun y => eqS y x)) else none := rfl
@[simp] theorem len_tup (xs : List PV) : bltV .len [.tup xs] = some (false, .int xs.length) := rfl
@[simp] theorem len_lst (xs : List PV) : bltV .len [.lst xs] = some (false, .int xs.length) := rfl
@[simp] theorem abs_int (i : Int) : bltV .abs [.int i] = some (false, .int (if i < 0 then -i else i)) := rfl
@[simp] theorem int_int (i : Int) : bltV .int [.int i] = some (false, .int i) := rfl
@[simp] theorem int_bl (b : Bool) : bltV .int [.bl b] = some (false, .int (if b then 1 else 0)) := rfl
@[simp] theorem all_lst (xs : List PV) : bltV .all [.lst xs] = (allBl xs).map fun bs => (false, .bl (bs.all id)) := rfl
@[simp] theorem any_lst (xs : List PV) : bltV .any [.lst xs] = (allBl xs).map fun bs => (false, .bl (bs.any id)) := rfl
@[simp] theorem sum_lst (xs : List PV) : bltV .sum [.lst xs] = (allInt xs).map fun ns => (false, .int ns.sum) := rfl
@[simp] theorem tuple_lst (xs : List PV) : bltV .tuple [.lst xs] = some (false, .tup xs) := rfl
@[simp] theorem list_lst (xs : List PV) : bltV .list [.lst xs] = some (true, .lst xs) := rfl
@[simp] theorem list_tup (xs : List PV) : bltV .list [.tup xs] = some (true, .lst xs) := rfl
@[simp] theorem max_int (i j : Int) : bltV .max [.int i, .int j] = some (false, .int (if j > i then j else i)) := rfl
@[simp] theorem setI_lst (xs : List PV) (i : Int) (v : PV) : setI (.lst xs) (.int i) v = if 0 ≤ i then (if i < xs.length then some (.lst (xs.set i.toNat v)) else none) else if -(xs.length : Int) ≤ i then some (.lst (xs.set (i + xs.length).toNat v)) else none := rfl
@[simp] theorem append_lst (xs : List PV) (y : PV) : metV .append (.lst xs) [y] = if xs.length < 16777216 then some ((false, .non), .lst (xs ++ [y])) else none := rfl
@[simp] theorem extend_lst (xs ys : List PV) : metV .extend (.lst xs) [.lst ys] = if xs.length + ys.length ≤ 16777216 then some ((false, .non), .lst (xs ++ ys)) else none := rfl
@[simp] theorem extend_tup (xs ys : List PV) : metV .extend (.lst xs) [.tup ys] = if xs.length + ys.length ≤ 16777216 then some ((false, .non), .lst (xs ++ ys)) else none := rfl
theorem pop_lst (xs : List PV) (y : PV) : metV .pop (.lst (xs ++ [y])) [] = some ((false, y), .lst xs) := by
  simp [metV]
theorem allBl_map {α : Type} (f : α → Bool) : ∀ xs : List α, allBl (xs.map fun x => PV.bl (f x)) = some (xs.map f)
  | [] => rfl
  | x :: xs => by simp [allBl, allBl_map f xs]
theorem allInt_map : ∀ xs : List Int, allInt (xs.map PV.int) = some xs
  | [] => rfl
  | x :: xs => by simp [allInt, allInt_map xs]

/-! ### loops -/
theorem compLoop_map {f : PV → Rho → R (Option PV)} {P : Rho → Prop} {g : PV → Option PV} : ∀ {xs : List PV} {ρ : Rho}, (∀ x ∈ xs, ∀ ρ, P ρ → ∃ ρ1, f x ρ = .ok (g x) ρ1 ∧ P ρ1) → P ρ → ∃ ρ', compLoop f xs ρ = .ok (xs.filterMap g) ρ' ∧ P ρ'
  | [], ρ, _, h => ⟨ρ, rfl, h⟩
  | x :: xs, ρ, step, h => by
    obtain ⟨ρ1, e1, h1⟩ := step x List.mem_cons_self ρ h
    obtain ⟨ρ2, e2, h2⟩ := compLoop_map (xs := xs) (fun y hy => step y (List.mem_cons_of_mem _ hy)) h1
    refine ⟨ρ2, ?_, h2⟩
    simp only [compLoop, e1, R.bind_ok, e2, List.filterMap_cons]
    cases g x <;> rfl
/-- elements of a kind, made one by one -/
theorem compLoop_ex {f : PV → Rho → R (Option PV)} {P : List PV → Rho → Prop} : ∀ {xs : List PV} {ρ : Rho} {acc : List PV}, (∀ x ∈ xs, ∀ acc ρ, P acc ρ → ∃ o ρ1, f x ρ = .ok o ρ1 ∧ P (acc ++ o.toList) ρ1) → P acc ρ → ∃ ds ρ', compLoop f xs ρ = .ok ds ρ' ∧ P (acc ++ ds) ρ'
  | [], ρ, acc, _, h => ⟨[], ρ, rfl, by rwa [List.append_nil]⟩
  | x :: xs, ρ, acc, step, h => by
    obtain ⟨o, ρ1, e1, h1⟩ := step x List.mem_cons_self acc ρ h
    obtain ⟨ds, ρ2, e2, h2⟩ := compLoop_ex (xs := xs) (fun y hy => step y (List.mem_cons_of_mem _ hy)) h1
    refine ⟨o.toList ++ ds, ρ2, ?_, by rwa [← List.append_assoc]⟩
    simp only [compLoop, e1, R.bind_ok, e2]
    cases o <;> rfl
theorem compLoop2_map {f : PV → Rho → R (List PV)} {P : Rho → Prop} {g : PV → List PV} : ∀ {xs : List PV} {ρ : Rho}, (∀ x ∈ xs, ∀ ρ, P ρ → ∃ ρ1, f x ρ = .ok (g x) ρ1 ∧ P ρ1) → P ρ → ∃ ρ', compLoop2 f xs ρ = .ok (xs.flatMap g) ρ' ∧ P ρ'
  | [], ρ, _, h => ⟨ρ, rfl, h⟩
  | x :: xs, ρ, step, h => by
    obtain ⟨ρ1, e1, h1⟩ := step x List.mem_cons_self ρ h
    obtain ⟨ρ2, e2, h2⟩ := compLoop2_map (xs := xs) (fun y hy => step y (List.mem_cons_of_mem _ hy)) h1
    refine ⟨ρ2, ?_, h2⟩
    simp only [compLoop2, e1, R.bind_ok, e2, List.flatMap_cons]
/-- one turn of a for loop -/
def turn (set : PV → Rho → R Unit) (body : Rho → R Fl) (x : PV) (ρ : Rho) : R Fl := (set x ρ).bind fun _ ρ1 => body ρ1
theorem forLoop_gen {set : PV → Rho → R Unit} {body : Rho → R Fl} {P : Nat → Rho → Prop} {Q : R Fl → Prop} {xs : List PV} :
    ∀ (ys : List PV) (i : Nat) (ρ : Rho), i ≤ xs.length → xs.drop i = ys → (∀ i x ρ, xs[i]? = some x → P i ρ → (∃ ρ2, turn set body x ρ = .ok .nx ρ2 ∧ P (i + 1) ρ2) ∨ (∃ ρ2, turn set body x ρ = .ok .brk ρ2 ∧ Q (.ok .nx ρ2)) ∨ (∃ c d ρ2, turn set body x ρ = .exc c d ρ2 ∧ Q (.exc c d ρ2)) ∨ (∃ fr d ρ2, turn set body x ρ = .ok (.ret fr d) ρ2 ∧ Q (.ok (.ret fr d) ρ2))) →
      (∀ ρ, P xs.length ρ → Q (.ok .nx ρ)) → P i ρ → Q (forLoop set body ys ρ)
  | [], i, ρ, le, e, step, fin, h => by
    have : xs.length ≤ i := by
      rcases Nat.lt_or_ge i xs.length with z | z
      · rw [List.drop_eq_getElem_cons z] at e; cases e
      · exact z
    have c : i = xs.length := by omega
    subst c; exact fin ρ h
  | x :: ys, i, ρ, le, e, step, fin, h => by
    have hx : xs[i]? = some x := by
      have := congrArg (fun l => l[0]?) e
      simpa using this
    have e' : xs.drop (i + 1) = ys := by
      have := congrArg List.tail e
      simpa using this
    have ft : forLoop set body (x :: ys) ρ = (turn set body x ρ).bind fun f ρ2 => match f with
      | .nx => forLoop set body ys ρ2
      | .cnt => forLoop set body ys ρ2
      | .brk => .ok .nx ρ2
      | .ret fr d => .ok (.ret fr d) ρ2 := by
      simp only [forLoop, turn]
      cases set x ρ <;> rfl
    rw [ft]
    rcases step i x ρ hx h with ⟨ρ2, e1, h2⟩ | ⟨ρ2, e1, h2⟩ | ⟨c, d, ρ2, e1, h2⟩ | ⟨fr, d, ρ2, e1, h2⟩
    · rw [e1]; exact forLoop_gen ys (i + 1) ρ2 (List.getElem?_eq_some_iff.mp hx).1 e' step fin h2
    · rw [e1]; exact h2
    · rw [e1]; exact h2
    · rw [e1]; exact h2
theorem forLoop_run {set : PV → Rho → R Unit} {body : Rho → R Fl} {P : Nat → Rho → Prop} {xs : List PV} {ρ : Rho} (step : ∀ i x ρ, xs[i]? = some x → P i ρ → ∃ ρ2, turn set body x ρ = .ok .nx ρ2 ∧ P (i + 1) ρ2) (h : P 0 ρ) : ∃ ρ', forLoop set body xs ρ = .ok .nx ρ' ∧ P xs.length ρ' :=
  forLoop_gen (Q := fun r => ∃ ρ', r = .ok .nx ρ' ∧ P xs.length ρ') (P := P) xs 0 ρ (Nat.zero_le _) rfl (fun i x ρ hx h => .inl (step i x ρ hx h)) (fun ρ h => ⟨ρ, rfl, h⟩) h
/-! ### while -/
theorem whileN_succ (c : Rho → R (Bool × PV)) (body : Rho → R Fl) : ∀ (n : Nat) (ρ : Rho), ¬ (whileN c body n ρ).isBad → whileN c body (n + 1) ρ = whileN c body n ρ
  | 0, ρ, h => absurd trivial h
  | n + 1, ρ, h => by
    have u : ∀ m, whileN c body (m + 1) ρ = (c ρ).bind fun x ρ1 => match x.2 with
      | .bl true => (body ρ1).bind fun f ρ2 => (match f with
        | .nx => whileN c body m ρ2
        | .cnt => whileN c body m ρ2
        | .brk => .ok .nx ρ2
        | .ret fr d => .ok (.ret fr d) ρ2)
      | .bl false => .ok .nx ρ1
      | _ => .bad := fun m => rfl
    rw [u (n + 1), u n]
    rw [u n] at h
    cases hc : c ρ with
    | bad => rfl
    | exc a b r => rfl
    | ok x ρ1 =>
      rw [hc] at h
      obtain ⟨fx, x⟩ := x
      cases x <;> try rfl
      rename_i b
      cases b
      · rfl
      · dsimp only [R.bind_ok] at h ⊢
        cases hb : body ρ1 with
        | bad => rfl
        | exc a b r => rfl
        | ok f ρ2 =>
          rw [hb] at h
          cases f
          · exact whileN_succ c body n ρ2 h
          · rfl
          · exact whileN_succ c body n ρ2 h
          · rfl
theorem whileN_add (c : Rho → R (Bool × PV)) (body : Rho → R Fl) (n : Nat) (ρ : Rho) (h : ¬ (whileN c body n ρ).isBad) : ∀ k, whileN c body (n + k) ρ = whileN c body n ρ
  | 0 => rfl
  | k + 1 => by
    have ih := whileN_add c body n ρ h k
    rw [← Nat.add_assoc, whileN_succ c body (n + k) ρ (by rw [ih]; exact h), ih]
theorem whileR_of {c : Rho → R (Bool × PV)} {body : Rho → R Fl} {n : Nat} {ρ : Rho} {r : R Fl} (e : whileN c body n ρ = r) (h : ¬ r.isBad) : whileR c body ρ = r := by
  have ex : ∃ n, ¬ (whileN c body n ρ).isBad := ⟨n, by rw [e]; exact h⟩
  unfold whileR
  rw [dif_pos ex]
  have h2 := ex.choose_spec
  rcases Nat.le_total n ex.choose with z | z
  · obtain ⟨k, hk⟩ := Nat.exists_eq_add_of_le z
    rw [hk, whileN_add c body n ρ (by rw [e]; exact h), e]
  · obtain ⟨k, hk⟩ := Nat.exists_eq_add_of_le z
    rw [← e, hk, whileN_add c body _ ρ h2]
/-- an invariant P with a measure; Q: what comes out -/
theorem whileR_gen {c : Rho → R (Bool × PV)} {body : Rho → R Fl} {P : Nat → Rho → Prop} {Q : R Fl → Prop} (hQ : ¬ Q .bad)
    (step : ∀ m ρ, P m ρ → (∃ f ρ1, c ρ = .ok (f, .bl false) ρ1 ∧ Q (.ok .nx ρ1)) ∨ (∃ f ρ1 ρ2 m', c ρ = .ok (f, .bl true) ρ1 ∧ body ρ1 = .ok .nx ρ2 ∧ m' < m ∧ P m' ρ2) ∨ (∃ f ρ1 ex d ρ2, c ρ = .ok (f, .bl true) ρ1 ∧ body ρ1 = .exc ex d ρ2 ∧ Q (.exc ex d ρ2))) (m : Nat) (ρ : Rho) (h : P m ρ) : Q (whileR c body ρ) := by
  have key : ∀ m ρ, P m ρ → ∃ n, Q (whileN c body n ρ) := fun m => by
    induction m using Nat.strongRecOn with
    | _ m ih =>
      intro ρ h
      rcases step m ρ h with ⟨f, ρ1, e, q⟩ | ⟨f, ρ1, ρ2, m', e1, e2, lt, p⟩ | ⟨f, ρ1, ex, d, ρ2, e1, e2, q⟩
      · exact ⟨1, by simp only [whileN, e, R.bind_ok]; exact q⟩
      · obtain ⟨n, q⟩ := ih m' lt ρ2 p
        exact ⟨n + 1, by simp only [whileN, e1, e2, R.bind_ok]; exact q⟩
      · exact ⟨1, by simp only [whileN, e1, e2, R.bind_ok, R.bind_exc]; exact q⟩
  obtain ⟨n, q⟩ := key m ρ h
  rw [whileR_of rfl (fun z => by
    cases e : whileN c body n ρ with
    | bad => rw [e] at q; exact hQ q
    | ok a b => rw [e] at z; exact z
    | exc a b c => rw [e] at z; exact z)]
  exact q
/-! ### comprehensions -/
def kE3 (y : Bool × PV) (ρ5 : Rho) : R (Option PV) := .ok (some y.2) ρ5
@[simp] theorem kE3_eq (y : Bool × PV) (ρ5 : Rho) : kE3 y ρ5 = .ok (some y.2) ρ5 := rfl
def kE2 (C : CallSem) (elt : IE) (k : Bool) (ρ4 : Rho) : R (Option PV) := if k then (ev C false elt ρ4).bind kE3 else .ok none ρ4
@[simp] theorem kE2_eq (C : CallSem) (elt : IE) (k : Bool) (ρ4 : Rho) : kE2 C elt k ρ4 = if k = true then (ev C false elt ρ4).bind kE3 else .ok none ρ4 := rfl
def kE1 (C : CallSem) (conds : List IE) (elt : IE) (u : Unit) (ρ3 : Rho) : R (Option PV) := (evC C conds ρ3).bind (kE2 C elt)
@[simp] theorem kE1_eq (C : CallSem) (conds : List IE) (elt : IE) (u : Unit) (ρ3 : Rho) : kE1 C conds elt u ρ3 = (evC C conds ρ3).bind (kE2 C elt) := rfl
/-- one element -/
def elF (C : CallSem) (own : List Nat) (tg : Tg) (conds : List IE) (elt : IE) (x : PV) (ρ2 : Rho) : R (Option PV) := (bindT tg x (wipeR ρ2 own)).bind (kE1 C conds elt)
@[simp] theorem elF_eq (C : CallSem) (own : List Nat) (tg : Tg) (conds : List IE) (elt : IE) (x : PV) (ρ2 : Rho) : elF C own tg conds elt x ρ2 = (bindT tg x (wipeR ρ2 own)).bind (kE1 C conds elt) := rfl
@[simp] theorem wipeR_nil (ρ : Rho) : wipeR ρ [] = ρ := rfl
@[simp] theorem wipeR_cons (ρ : Rho) (v : Nat) (vs : List Nat) : wipeR ρ (v :: vs) = (wipeR ρ vs).set v none := rfl
@[simp] theorem unwipe_nil (ρ0 ρ : Rho) : unwipe ρ0 ρ [] = ρ := rfl
@[simp] theorem unwipe_cons (ρ0 ρ : Rho) (v : Nat) (vs : List Nat) : unwipe ρ0 ρ (v :: vs) = (unwipe ρ0 ρ vs).set v (ρ0.getD v none) := rfl
theorem lendR_no {ik : Ik} {its : List IE} (h : lendI ik its = none) (ρ : Rho) : lendR ik its ρ = ρ := by unfold lendR; rw [h]
theorem back_no {α : Type} {ik : Ik} {its : List IE} (h : lendI ik its = none) (ρ0 : Rho) (r : R α) : r.back ik its ρ0 = r := by
  have e : ∀ ρ, backR ik its ρ0 ρ = some ρ := fun ρ => by unfold backR; rw [h]
  cases r <;> simp [R.back, e]
def kIt (ik : Ik) (ds : List PV) (ρ1 : Rho) : R (List PV) := R.opt (itV ik ds) ρ1
@[simp] theorem kIt_eq (ik : Ik) (ds : List PV) (ρ1 : Rho) : kIt ik ds ρ1 = R.opt (itV ik ds) ρ1 := rfl
@[simp] theorem itR_seq (its : List IE) (r : R (List PV)) (ρ : Rho) : itR .seq its r ρ = r.bind (kIt .seq) := rfl
@[simp] theorem itR_range1 (its : List IE) (r : R (List PV)) (ρ : Rho) : itR .range1 its r ρ = r.bind (kIt .range1) := rfl
@[simp] theorem itR_range2 (its : List IE) (r : R (List PV)) (ρ : Rho) : itR .range2 its r ρ = r.bind (kIt .range2) := rfl
@[simp] theorem itR_zip (its : List IE) (r : R (List PV)) (ρ : Rho) : itR .zip its r ρ = r.bind (kIt .zip) := rfl
@[simp] theorem itR_enum (its : List IE) (r : R (List PV)) (ρ : Rho) : itR .enum its r ρ = r.bind (kIt .enum) := rfl
@[simp] theorem itV_seq_tup (xs : List PV) : itV .seq [.tup xs] = some xs := rfl
@[simp] theorem itV_seq_lst (xs : List PV) : itV .seq [.lst xs] = some xs := rfl
theorem itV_range1 (j : Int) (h : 0 ≤ j ∧ j ≤ 1000000) : itV .range1 [.int j] = some ((List.range j.toNat).map fun k : Nat => .int (k : Int)) := by
  have c : -(2 ^ 62) ≤ j ∧ j < 2 ^ 62 := ⟨Int.le_trans (by decide) h.1, Int.lt_of_le_of_lt h.2 (by decide)⟩
  exact if_pos c
theorem itV_range1n (n : Nat) (h : n ≤ 1000000) : itV .range1 [.int n] = some ((List.range n).map fun k : Nat => .int (k : Int)) := by
  rw [itV_range1 n (by omega), Int.toNat_natCast]
@[simp] theorem itV_zip_tl (xs ys : List PV) : itV .zip [.tup xs, .lst ys] = some (pairs xs ys) := rfl
theorem ev_lcp {C : CallSem} {own : List Nat} {tg : Tg} {ik : Ik} {its conds : List IE} {elt : IE} {ρ ρ1 ρ6 : Rho} {xs ds : List PV} (hik : lendI ik its = none) (h1 : itR ik its (evL C its ρ) ρ = .ok xs ρ1) (h2 : compLoop (elF C own tg conds elt) xs ρ1 = .ok ds ρ6) (hl : ds.length ≤ 16777216) :
    ev C false (.lcp own tg ik its conds elt) ρ = .ok (true, .lst ds) (unwipe ρ1 ρ6 own) := by
  have e : ev C false (.lcp own tg ik its conds elt) ρ = (itR ik its (evL C its ρ) ρ).bind fun xs ρ1 => ((compLoop (elF C own tg conds elt) xs (lendR ik its ρ1)).quiet).bind fun ds ρ6 => lenOk ds ρ6 (R.back ik its ρ1 (.ok (true, .lst ds) (unwipe (lendR ik its ρ1) ρ6 own))) := rfl
  rw [e, h1, R.bind_ok, lendR_no hik, h2]
  simp only [R.quiet, R.bind_ok, lenOk_le]
  rw [if_pos hl, back_no hik]
theorem lcp_map {C : CallSem} {own : List Nat} {tg : Tg} {ik : Ik} {its conds : List IE} {elt : IE} {ρ : Rho} (ρ1 ρ2 : Rho) (xs : List PV) (g : PV → Option PV) (P : Rho → Prop) (hik : lendI ik its = none) (h1 : itR ik its (evL C its ρ) ρ = .ok xs ρ1)
    (hs : ∀ x ∈ xs, ∀ ρ, P ρ → ∃ ρ', elF C own tg conds elt x ρ = .ok (g x) ρ' ∧ P ρ') (h0 : P ρ1) (hu : ∀ ρ6, P ρ6 → unwipe ρ1 ρ6 own = ρ2) (hlen : xs.length ≤ 16777216) : ev C false (.lcp own tg ik its conds elt) ρ = .ok (true, .lst (xs.filterMap g)) ρ2 := by
  obtain ⟨ρ6, e, p⟩ := compLoop_map hs h0
  rw [ev_lcp hik h1 e (Nat.le_trans (List.length_filterMap_le _ _) hlen), hu _ p]
/-- elements made one by one -/
theorem lcp_ex {C : CallSem} {own : List Nat} {tg : Tg} {ik : Ik} {its conds : List IE} {elt : IE} {ρ : Rho} (ρ1 : Rho) (xs : List PV) (P : List PV → Rho → Prop) (hik : lendI ik its = none) (h1 : itR ik its (evL C its ρ) ρ = .ok xs ρ1)
    (hs : ∀ x ∈ xs, ∀ acc ρ, P acc ρ → ∃ o ρ', elF C own tg conds elt x ρ = .ok o ρ' ∧ P (acc ++ o.toList) ρ') (h0 : P [] ρ1) (hlen : ∀ ds ρ6, P ds ρ6 → ds.length ≤ 16777216) : ∃ ds ρ6, P ds ρ6 ∧ ev C false (.lcp own tg ik its conds elt) ρ = .ok (true, .lst ds) (unwipe ρ1 ρ6 own) := by
  obtain ⟨ds, ρ6, e, p⟩ := compLoop_ex (acc := []) hs h0
  exact ⟨ds, ρ6, p, ev_lcp hik h1 e (hlen _ _ p)⟩
/-! ### for -/
theorem exS_for {C : CallSem} {tg : Tg} {ik : Ik} {its : List IE} {b : List IS} {ρ ρ1 : Rho} {xs : List PV} (hik : lendI ik its = none) (h1 : itR ik its (evL C its ρ) ρ = .ok xs ρ1) : exS C (.for_ tg ik its b) ρ = forLoop (fun x ρ => bindT tg x ρ) (fun ρ => exSs C b ρ) xs ρ1 := by
  have e : exS C (.for_ tg ik its b) ρ = (itR ik its (evL C its ρ) ρ).bind fun xs ρ1 => (forLoop (fun x ρ => bindT tg x ρ) (fun ρ => exSs C b ρ) xs (lendR ik its ρ1)).back ik its ρ1 := rfl
  rw [e, h1, R.bind_ok, lendR_no hik, back_no hik]
/-- one turn -/
noncomputable def kTn (C : CallSem) (b : List IS) (u : Unit) (ρ : Rho) : R Fl := exSs C b ρ
@[simp] theorem kTn_eq (C : CallSem) (b : List IS) (u : Unit) (ρ : Rho) : kTn C b u ρ = exSs C b ρ := rfl
theorem turn_eq (C : CallSem) (tg : Tg) (b : List IS) (x : PV) (ρ : Rho) : turn (fun x ρ => bindT tg x ρ) (fun ρ => exSs C b ρ) x ρ = (bindT tg x ρ).bind (kTn C b) := rfl
/-- a for loop that runs to its end -/
theorem for_run {C : CallSem} {tg : Tg} {ik : Ik} {its : List IE} {b : List IS} {ρ : Rho} (ρ1 : Rho) (xs : List PV) (P : Nat → Rho → Prop) (hik : lendI ik its = none) (h1 : itR ik its (evL C its ρ) ρ = .ok xs ρ1) (step : ∀ i x ρ, xs[i]? = some x → P i ρ → ∃ ρ2, (bindT tg x ρ).bind (kTn C b) = .ok .nx ρ2 ∧ P (i + 1) ρ2) (h : P 0 ρ1) :
    ∃ ρ', exS C (.for_ tg ik its b) ρ = .ok .nx ρ' ∧ P xs.length ρ' := by
  rw [exS_for hik h1]
  exact forLoop_run step h
theorem exS_whl {C : CallSem} {c : IE} {b : List IS} {ρ : Rho} : exS C (.whl c b) ρ = whileR (fun ρ => ev C true c ρ) (fun ρ => exSs C b ρ) ρ := rfl
/-! ### slices -/
theorem slc_tup (xs : List PV) (lo hi : Option Int) : slcV (.tup xs) lo hi = some (false, .tup (cutP xs lo hi)) := rfl
@[simp] theorem slc_tup_1 (x : PV) (xs : List PV) : slcV (.tup (x :: xs)) (some 1) none = some (false, .tup xs) := by
  simp [slcV, cutP, HT.sIx]
@[simp] theorem slc_scr (ns : List Int) (lo hi : Option Int) : slcV (.scr ns) lo hi = some (true, .lst (cutP (ns.map .int) lo hi)) := rfl
/-! ### dicts -/
def dspK (k : Nat) (o : Option (List (PV × PV))) (ρ1 : Rho) : R (Bool × PV) := match o with
  | some kvs => if kvs.length ≤ 15 ∧ (∀ kv ∈ kvs, keyFit 0 kv.1 = true) ∧ (k = 0 ∨ (k = 1 ∧ kvs = [])) then .ok (true, .dct k (kvs.foldl (fun acc kv => dPut acc kv.1 kv.2) [])) ρ1 else .bad
  | none => .bad
@[simp] theorem dspK_some (k : Nat) (kvs : List (PV × PV)) (ρ1 : Rho) : dspK k (some kvs) ρ1 = if kvs.length ≤ 15 ∧ (∀ kv ∈ kvs, keyFit 0 kv.1 = true) ∧ (k = 0 ∨ (k = 1 ∧ kvs = [])) then .ok (true, .dct k (kvs.foldl (fun acc kv => dPut acc kv.1 kv.2) [])) ρ1 else .bad := rfl
def kDsp (k : Nat) (ds : List PV) (ρ1 : Rho) : R (Bool × PV) := dspK k (dspV ds) ρ1
@[simp] theorem kDsp_eq (k : Nat) (ds : List PV) (ρ1 : Rho) : kDsp k ds ρ1 = dspK k (dspV ds) ρ1 := rfl
@[simp] theorem ev_dsp (C : CallSem) (m : Bool) (k : Nat) (es : List IE) (ρ : Rho) : ev C m (.dsp k es) ρ = tr m ((evL C es ρ).bind (kDsp k)) := rfl
@[simp] theorem dspV_nil : dspV [] = some [] := rfl
@[simp] theorem dspV_cons (k v : PV) (r : List PV) : dspV (k :: v :: r) = (dspV r).map fun t => (k, v) :: t := rfl
@[simp] theorem keyFit_str (x : List Nat) : keyFit 0 (.str x) = true := rfl
@[simp] theorem keyFit_int (x : Int) : keyFit 0 (.int x) = true := rfl
@[simp] theorem keyEq_str (a b : List Nat) : keyEq (.str a) (.str b) = (a == b) := rfl
@[simp] theorem keyEq_int (a b : Int) : keyEq (.int a) (.int b) = (a == b) := rfl
@[simp] theorem idxV_dct (kd : Nat) (kvs : List (PV × PV)) (k : PV) : idxV (.dct kd kvs) k = if keyFit kd k = true then dGet kvs k else none := rfl
@[simp] theorem dGet_nil (k : PV) : dGet [] k = none := rfl
@[simp] theorem dGet_cons (k0 v k : PV) (kvs : List (PV × PV)) : dGet ((k0, v) :: kvs) k = if keyEq k0 k = true then some v else dGet kvs k := by
  unfold dGet
  rw [List.find?_cons]
  dsimp only
  cases keyEq k0 k <;> rfl
@[simp] theorem cmp_in_dct (x : PV) (k : Nat) (kvs : List (PV × PV)) : cmpV .isin x (.dct k kvs) = if keyFit k x = true then some (dGet kvs x).isSome else none := by cases x <;> rfl
@[simp] theorem cmp_notin_dct (x : PV) (k : Nat) (kvs : List (PV × PV)) : cmpV .notin x (.dct k kvs) = if keyFit k x = true then some (!(dGet kvs x).isSome) else none := by cases x <;> rfl
@[simp] theorem upd_dct (kvs more : List (PV × PV)) : metV .update (.dct 0 kvs) [.dct 0 more] = if kvs.length + more.length ≤ 16777216 then some ((false, .non), .dct 0 (more.foldl (fun acc kv => dPut acc kv.1 kv.2) kvs)) else none := rfl
theorem fm_map (f : PV → PV) (xs : List PV) : xs.filterMap (fun x => some (f x)) = xs.map f := by
  induction xs with
  | nil => rfl
  | cons x xs ih => simp [ih]
theorem allBl_pv (f : PV → Bool) : ∀ xs : List PV, allBl (xs.map fun x => PV.bl (f x)) = some (xs.map f)
  | [] => rfl
  | x :: xs => by simp [allBl, allBl_pv f xs]
theorem whl_gen {C : CallSem} {c : IE} {b : List IS} {P : Nat → Rho → Prop} {Q : R Fl → Prop} (hQ : ¬ Q .bad)
    (step : ∀ m ρ, P m ρ → (∃ f ρ1, ev C true c ρ = .ok (f, .bl false) ρ1 ∧ Q (.ok .nx ρ1)) ∨ (∃ f ρ1 ρ2 m', ev C true c ρ = .ok (f, .bl true) ρ1 ∧ exSs C b ρ1 = .ok .nx ρ2 ∧ m' < m ∧ P m' ρ2) ∨ (∃ f ρ1 ex d ρ2, ev C true c ρ = .ok (f, .bl true) ρ1 ∧ exSs C b ρ1 = .exc ex d ρ2 ∧ Q (.exc ex d ρ2))) (m : Nat) (ρ : Rho) (h : P m ρ) : Q (exS C (.whl c b) ρ) :=
  whileR_gen hQ step m ρ h
theorem compLoop_list {α : Type} {f : PV → Rho → R (Option PV)} {P : Rho → Prop} {e : α → PV} {g : α → Option PV} : ∀ {l : List α} {ρ : Rho}, (∀ a ∈ l, ∀ ρ, P ρ → ∃ ρ1, f (e a) ρ = .ok (g a) ρ1 ∧ P ρ1) → P ρ → ∃ ρ', compLoop f (l.map e) ρ = .ok (l.filterMap g) ρ' ∧ P ρ'
  | [], ρ, _, h => ⟨ρ, rfl, h⟩
  | x :: xs, ρ, step, h => by
    obtain ⟨ρ1, e1, h1⟩ := step x List.mem_cons_self ρ h
    obtain ⟨ρ2, e2, h2⟩ := compLoop_list (l := xs) (fun y hy => step y (List.mem_cons_of_mem _ hy)) h1
    refine ⟨ρ2, ?_, h2⟩
    simp only [List.map_cons, compLoop, e1, R.bind_ok, e2, List.filterMap_cons]
    cases g x <;> rfl
/-- l, each element by e, gives what g says -/
theorem lcp_list {α : Type} {C : CallSem} {own : List Nat} {tg : Tg} {ik : Ik} {its conds : List IE} {elt : IE} {ρ : Rho} (ρ1 ρ2 : Rho) (l : List α) (e : α → PV) (g : α → Option PV) (P : Rho → Prop) (hik : lendI ik its = none) (h1 : itR ik its (evL C its ρ) ρ = .ok (l.map e) ρ1)
    (hs : ∀ a ∈ l, ∀ ρ, P ρ → ∃ ρ', elF C own tg conds elt (e a) ρ = .ok (g a) ρ' ∧ P ρ') (h0 : P ρ1) (hu : ∀ ρ6, P ρ6 → unwipe ρ1 ρ6 own = ρ2) (hlen : l.length ≤ 16777216) : ev C false (.lcp own tg ik its conds elt) ρ = .ok (true, .lst (l.filterMap g)) ρ2 := by
  obtain ⟨ρ6, e, p⟩ := compLoop_list hs h0
  rw [ev_lcp hik h1 e (Nat.le_trans (List.length_filterMap_le _ _) hlen), hu _ p]
theorem fm_some {α β : Type} (f : α → β) (xs : List α) : xs.filterMap (fun x => some (f x)) = xs.map f := by
  induction xs with
  | nil => rfl
  | cons x xs ih => simp [ih]
theorem allBl_of {α : Type} (f : α → Bool) : ∀ xs : List α, allBl (xs.map fun x => PV.bl (f x)) = some (xs.map f)
  | [] => rfl
  | x :: xs => by simp [allBl, allBl_of f xs]
theorem allInt_of {α : Type} (f : α → Int) : ∀ xs : List α, allInt (xs.map fun x => PV.int (f x)) = some (xs.map f)
  | [] => rfl
  | x :: xs => by simp [allInt, allInt_of f xs]
theorem ixAt_at {α : Type} (xs : List α) (j : Int) (h0 : 0 ≤ j) (h1 : j < xs.length) : ixAt xs j = xs[j.toNat]? := by
  unfold ixAt
  rw [if_pos h0, if_pos h1]
theorem ixAt_row (row : List Int) (j : Int) (h0 : 0 ≤ j) (h1 : j < row.length) : ixAt (row.map PV.int) j = some (.int (row.getD j.toNat 0)) := by
  have lt : j.toNat < row.length := by omega
  rw [ixAt_at _ _ h0 (by rw [List.length_map]; exact h1), List.getElem?_map, List.getElem?_eq_getElem lt, List.getD_eq_getElem?_getD, List.getElem?_eq_getElem lt]
  rfl
@[simp] theorem isScal_tup (xs : List PV) : isScal (.tup xs) = false := rfl
@[simp] theorem cmp_in_lst (x : PV) (ys : List PV) : cmpV .isin x (.lst ys) = if (isScal x && ys.all isScal) = true then some (ys.any fun y => eqS y x) else if (eqOk x && eqOk (.lst ys)) = true then some (ys.any fun y => eqV' y x) else none := rfl
theorem compLoop2_list {α : Type} {f : PV → Rho → R (List PV)} {P : Rho → Prop} {e : α → PV} {g : α → List PV} : ∀ {l : List α} {ρ : Rho}, (∀ a ∈ l, ∀ ρ, P ρ → ∃ ρ1, f (e a) ρ = .ok (g a) ρ1 ∧ P ρ1) → P ρ → ∃ ρ', compLoop2 f (l.map e) ρ = .ok (l.flatMap g) ρ' ∧ P ρ'
  | [], ρ, _, h => ⟨ρ, rfl, h⟩
  | x :: xs, ρ, step, h => by
    obtain ⟨ρ1, e1, h1⟩ := step x List.mem_cons_self ρ h
    obtain ⟨ρ2, e2, h2⟩ := compLoop2_list (l := xs) (fun y hy => step y (List.mem_cons_of_mem _ hy)) h1
    refine ⟨ρ2, ?_, h2⟩
    simp only [List.map_cons, compLoop2, e1, R.bind_ok, e2, List.flatMap_cons]
def kO2 (C : CallSem) (own2 : List Nat) (tg2 : Tg) (conds2 : List IE) (elt : IE) (ys : List PV) (ρ4 : Rho) : R (List PV) := compLoop (elF C own2 tg2 conds2 elt) ys ρ4
@[simp] theorem kO2_eq (C : CallSem) (own2 : List Nat) (tg2 : Tg) (conds2 : List IE) (elt : IE) (ys : List PV) (ρ4 : Rho) : kO2 C own2 tg2 conds2 elt ys ρ4 = compLoop (elF C own2 tg2 conds2 elt) ys ρ4 := rfl
def kO1 (C : CallSem) (own2 : List Nat) (tg2 : Tg) (ik2 : Ik) (its2 conds2 : List IE) (elt : IE) (u : Unit) (ρ3 : Rho) : R (List PV) := (itR ik2 its2 (evL C its2 ρ3) ρ3).bind (kO2 C own2 tg2 conds2 elt)
@[simp] theorem kO1_eq (C : CallSem) (own2 : List Nat) (tg2 : Tg) (ik2 : Ik) (its2 conds2 : List IE) (elt : IE) (u : Unit) (ρ3 : Rho) : kO1 C own2 tg2 ik2 its2 conds2 elt u ρ3 = (itR ik2 its2 (evL C its2 ρ3) ρ3).bind (kO2 C own2 tg2 conds2 elt) := rfl
/-- one turn of the outer clause -/
def ouF (C : CallSem) (own own2 : List Nat) (tg tg2 : Tg) (ik2 : Ik) (its2 conds2 : List IE) (elt : IE) (x : PV) (ρ2 : Rho) : R (List PV) := (bindT tg x (wipeR ρ2 own)).bind (kO1 C own2 tg2 ik2 its2 conds2 elt)
theorem lcp2_list {α : Type} {C : CallSem} {own own2 : List Nat} {tg tg2 : Tg} {ik ik2 : Ik} {its its2 conds2 : List IE} {elt : IE} {ρ : Rho} (ρ1 ρ2 : Rho) (l : List α) (e : α → PV) (g : α → List PV) (P : Rho → Prop) (hik : lendI ik its = none) (h1 : itR ik its (evL C its ρ) ρ = .ok (l.map e) ρ1)
    (hs : ∀ a ∈ l, ∀ ρ, P ρ → ∃ ρ', ouF C own own2 tg tg2 ik2 its2 conds2 elt (e a) ρ = .ok (g a) ρ' ∧ P ρ') (h0 : P ρ1) (hu : ∀ ρ6, P ρ6 → unwipe ρ1 ρ6 own = ρ2) (hlen : (l.flatMap g).length ≤ 16777216) : ev C false (.lcp2 own own2 tg ik its tg2 ik2 its2 conds2 elt) ρ = .ok (true, .lst (l.flatMap g)) ρ2 := by
  obtain ⟨ρ6, e, p⟩ := compLoop2_list hs h0
  have ed : ev C false (.lcp2 own own2 tg ik its tg2 ik2 its2 conds2 elt) ρ = (itR ik its (evL C its ρ) ρ).bind fun xs ρ1 => ((compLoop2 (ouF C own own2 tg tg2 ik2 its2 conds2 elt) xs (lendR ik its ρ1)).quiet).bind fun ds ρ6 => lenOk ds ρ6 (R.back ik its ρ1 (.ok (true, .lst ds) (unwipe (lendR ik its ρ1) ρ6 own))) := rfl
  rw [ed, h1, R.bind_ok, lendR_no hik, e]
  simp only [R.quiet, R.bind_ok, lenOk_le]
  rw [if_pos hlen, back_no hik, hu _ p]
@[simp] theorem binV_add_tup (xs ys : List PV) : binV .add (.tup xs) (.tup ys) = if xs.length + ys.length ≤ 16777216 then some (false, .tup (xs ++ ys)) else none := rfl
@[simp] theorem binV_add_lst (xs ys : List PV) : binV .add (.lst xs) (.lst ys) = if xs.length + ys.length ≤ 16777216 then some (true, .lst (xs ++ ys)) else none := rfl
theorem take_at {α : Type} {l : List α} {i : Nat} {a : α} (h : l[i]? = some a) : l.take (i + 1) = l.take i ++ [a] := by
  rw [List.take_add_one, h]
  rfl
theorem map_at {α β : Type} {l : List α} {f : α → β} {i : Nat} {b : β} (h : (l.map f)[i]? = some b) : ∃ a, l[i]? = some a ∧ b = f a := by
  rw [List.getElem?_map] at h
  cases e : l[i]? with
  | none => rw [e] at h; cases h
  | some a => rw [e] at h; exact ⟨a, rfl, (Option.some.inj h).symm⟩
end Cw.Ev
set_option Elab.async false
set_option linter.all false
set_option maxRecDepth 100000
set_option maxHeartbeats 4000000
set_option autoImplicit false
/-! k00, mathematics 1: sayings -/
namespace Cw.Ev
open PySem L2

noncomputable abbrev E (k : Nat) : CallSem := evalCall TBL k
theorem ixAt_map (nums : List Int) (i : Int) (h0 : 0 ≤ i) (h1 : i < nums.length) : ∃ v, ixAt (nums.map PV.int) i = some (.int v) := by
  unfold ixAt
  have lt : i.toNat < nums.length := by omega
  rw [if_pos h0, if_pos (by rw [List.length_map]; exact h1), List.getElem?_map, List.getElem?_eq_getElem lt]
  exact ⟨_, rfl⟩
theorem fmod_range (a b : Int) (h : 0 < b) : 0 ≤ a.fmod b ∧ a.fmod b < b := ⟨Int.fmod_nonneg_of_pos _ h, Int.fmod_lt_of_pos _ h⟩
/-- _law_next -/
theorem next_spec (k : Nat) (nums : List Int) (c many : Int) (h0 : nums ≠ []) (hl : nums.length < 1073741824) (hc : 0 ≤ c ∧ c < 2 ^ 60) (hm : 0 < many) : ∃ r, 0 ≤ r ∧ r < many ∧ E (k + 1) 12 [some (.par, .lst [.lst (nums.map .int), .int c]), some (.sh, .int many)] = .ok false (.int r) [some (.par, .lst [.lst (nums.map .int), .int (c+1)]), none] := by
  have lp : 0 < nums.length := List.length_pos_iff.mpr h0
  obtain ⟨v, hv⟩ := ixAt_map nums ((c + 1).fmod nums.length) (fmod_range _ _ (by omega)).1 (fmod_range _ _ (by omega)).2
  have hm' : many ≠ 0 := by omega
  have hc1 : -18446744073709551616 < c + 1 := by omega
  have hc2 : c + 1 < 18446744073709551616 := by omega
  have e : ∃ z, E (k + 1) 12 [some (.par, .lst [.lst (nums.map .int), .int c]), some (.sh, .int many)] = .ok false (.int (Int.fmod z many)) [some (.par, .lst [.lst (nums.map .int), .int (c+1)]), none] := by
    show ∃ z, callF ⟨2, n_law_next.length, b_law_next⟩ (E k) _ = _
    simp -implicitDefEqProofs [n_law_next, b_law_next, h0, hl, hv, hm', hc1, hc2]
    exact ⟨_, rfl⟩
  obtain ⟨z, e⟩ := e
  exact ⟨_, (fmod_range _ _ hm).1, (fmod_range _ _ hm).2, e⟩

/-! ### sayings -/
inductive Kd where
  | yes | no | letter (i : Int) | not | thn | same | all | any | sum (n : Int) (ws : List Int) | least (n : Int) | most (n : Int) | just (n : Int)
inductive Sy where
  | mk (k : Kd) (ch : List Sy)
def Sy.ch : Sy → List Sy | .mk _ ch => ch
def Sy.k : Sy → Kd | .mk k _ => k
def zipW : List Int → List PV → List PV
  | w :: ws, p :: ps => .tup [.int w, p] :: zipW ws ps
  | _, _ => []
abbrev sYes : List Nat := [121, 101, 115]
abbrev sNo : List Nat := [110, 111]
abbrev sLetter : List Nat := [108, 101, 116, 116, 101, 114]
abbrev sNot : List Nat := [110, 111, 116]
abbrev sThen : List Nat := [116, 104, 101, 110]
abbrev sSame : List Nat := [115, 97, 109, 101]
abbrev sAll : List Nat := [97, 108, 108]
abbrev sSome : List Nat := [115, 111, 109, 101]
abbrev sSum : List Nat := [115, 117, 109]
abbrev sLeast : List Nat := [108, 101, 97, 115, 116]
abbrev sMost : List Nat := [109, 111, 115, 116]
abbrev sJust : List Nat := [106, 117, 115, 116]
def encK : Kd → List PV → PV
  | .yes, _ => .tup [.str sYes]
  | .no, _ => .tup [.str sNo]
  | .letter i, _ => .tup [.str sLetter, .int i]
  | .not, ps => .tup (.str sNot :: ps)
  | .thn, ps => .tup (.str sThen :: ps)
  | .same, ps => .tup (.str sSame :: ps)
  | .all, ps => .tup [.str sAll, .tup ps]
  | .any, ps => .tup [.str sSome, .tup ps]
  | .sum n ws, ps => .tup [.str sSum, .int n, .tup (zipW ws ps)]
  | .least n, ps => .tup [.str sLeast, .int n, .tup ps]
  | .most n, ps => .tup [.str sMost, .int n, .tup ps]
  | .just n, ps => .tup [.str sJust, .int n, .tup ps]
mutual
def enc : Sy → PV
  | .mk k ch => encK k (encs ch)
def encs : List Sy → List PV
  | [] => []
  | s :: r => enc s :: encs r
end
theorem encs_map : ∀ l : List Sy, encs l = l.map enc
  | [] => rfl
  | s :: r => by rw [encs, encs_map r, List.map_cons]
/-- how many parts, numbers within bounds -/
def kOk (L : Int) : Kd → List Sy → Prop
  | .yes, ch => ch = []
  | .no, ch => ch = []
  | .letter i, ch => ch = [] ∧ 1 ≤ i ∧ i ≤ L
  | .not, ch => ∃ a, ch = [a]
  | .thn, ch => ∃ a b, ch = [a, b]
  | .same, ch => ∃ a b, ch = [a, b]
  | .all, _ => True
  | .any, _ => True
  | .sum n ws, ch => ws.length = ch.length ∧ (-1000 ≤ n ∧ n ≤ 1000) ∧ ∀ w ∈ ws, -1000 ≤ w ∧ w ≤ 1000
  | .least n, _ => -1000 ≤ n ∧ n ≤ 1000
  | .most n, _ => -1000 ≤ n ∧ n ≤ 1000
  | .just n, _ => -1000 ≤ n ∧ n ≤ 1000
mutual
def fine (L : Int) : Sy → Prop
  | .mk k ch => kOk L k ch ∧ ch.length < 1000 ∧ fines L ch
def fines (L : Int) : List Sy → Prop
  | [] => True
  | s :: r => fine L s ∧ fines L r
end
theorem fines_mem {L : Int} : ∀ {l : List Sy}, fines L l → ∀ s ∈ l, fine L s
  | [], _, s, h => by cases h
  | a :: r, h, s, hs => by
    rcases List.mem_cons.mp hs with e | e
    · rw [e]; exact h.1
    · exact fines_mem h.2 s e
theorem zipW_len : ∀ (ws : List Int) (ps : List PV), ws.length = ps.length → (zipW ws ps).length = ps.length
  | [], [], _ => rfl
  | w :: ws, p :: ps, h => by
    simp only [List.length_cons, Nat.add_right_cancel_iff] at h
    simp -implicitDefEqProofs [zipW, zipW_len ws ps h]
  | [], _ :: _, h => by simp -implicitDefEqProofs at h
  | _ :: _, [], h => by simp -implicitDefEqProofs at h
/-- the second of each pair, as the comprehension picks it -/
def snd2 : PV → Option PV
  | .tup [_, b] => some b
  | _ => none
theorem zipW_snd : ∀ (ws : List Int) (ps : List PV), ws.length = ps.length → (zipW ws ps).filterMap snd2 = ps
  | [], [], _ => rfl
  | w :: ws, p :: ps, h => by
    simp only [List.length_cons, Nat.add_right_cancel_iff] at h
    simp -implicitDefEqProofs [zipW, snd2, zipW_snd ws ps h]
  | [], _ :: _, h => by simp -implicitDefEqProofs at h
  | _ :: _, [], h => by simp -implicitDefEqProofs at h
theorem zipW_mem : ∀ {ws : List Int} {ps : List PV} {x : PV}, x ∈ zipW ws ps → ∃ w ∈ ws, ∃ p ∈ ps, x = .tup [.int w, p]
  | [], _, _, h => by simp -implicitDefEqProofs [zipW] at h
  | _ :: _, [], _, h => by simp -implicitDefEqProofs [zipW] at h
  | w :: ws, p :: ps, x, h => by
    rw [zipW] at h
    rcases List.mem_cons.mp h with e | e
    · exact ⟨w, List.mem_cons_self, p, List.mem_cons_self, e⟩
    · obtain ⟨w', h1, p', h2, h3⟩ := zipW_mem e
      exact ⟨w', List.mem_cons_of_mem _ h1, p', List.mem_cons_of_mem _ h2, h3⟩
theorem encs_len (l : List Sy) : (encs l).length = l.length := by rw [encs_map, List.length_map]
/-- parts_of -/
theorem parts_spec (k : Nat) (L : Int) (s : Sy) (h : fine L s) : E (k + 1) 2 [some (.sh, enc s)] = .ok false (.tup (encs s.ch)) [none] := by
  show callF ⟨1, n_parts_of.length, b_parts_of⟩ (E k) _ = _
  obtain ⟨kd, ch⟩ := s
  rw [fine] at h
  obtain ⟨h1, h2, _⟩ := h
  cases kd with
  | yes => simp only [kOk] at h1; subst h1; simp -implicitDefEqProofs [n_parts_of, b_parts_of, enc, encs, encK, Sy.ch]
  | no => simp only [kOk] at h1; subst h1; simp -implicitDefEqProofs [n_parts_of, b_parts_of, enc, encs, encK, Sy.ch]
  | letter i => simp only [kOk] at h1; obtain ⟨rfl, _⟩ := h1; simp -implicitDefEqProofs [n_parts_of, b_parts_of, enc, encs, encK, Sy.ch]
  | not => simp only [kOk] at h1; obtain ⟨a, rfl⟩ := h1; simp -implicitDefEqProofs [n_parts_of, b_parts_of, enc, encs, encK, Sy.ch]
  | thn => simp only [kOk] at h1; obtain ⟨a, b, rfl⟩ := h1; simp -implicitDefEqProofs [n_parts_of, b_parts_of, enc, encs, encK, Sy.ch]
  | same => simp only [kOk] at h1; obtain ⟨a, b, rfl⟩ := h1; simp -implicitDefEqProofs [n_parts_of, b_parts_of, enc, encs, encK, Sy.ch]
  | all => simp -implicitDefEqProofs [n_parts_of, b_parts_of, enc, encs, encK, Sy.ch]
  | any => simp -implicitDefEqProofs [n_parts_of, b_parts_of, enc, encs, encK, Sy.ch]
  | sum n ws =>
    obtain ⟨hw, _, _⟩ := h1
    have hz : ws.length = (encs ch).length := by rw [encs_len]; exact hw
    simp -implicitDefEqProofs [n_parts_of, b_parts_of, enc, encs, encK, Sy.ch]
    rw [lcp_map (C := E k) [some (Stt.sh, PV.tup [PV.str sSum, PV.int n, PV.tup (zipW ws (encs ch))]), none, none] [some (Stt.sh, PV.tup [PV.str sSum, PV.int n, PV.tup (zipW ws (encs ch))]), none, none] (zipW ws (encs ch)) snd2 (fun ρ => ∃ a b, ρ = [some (Stt.sh, PV.tup [PV.str sSum, PV.int n, PV.tup (zipW ws (encs ch))]), a, b])]
    · rw [zipW_snd _ _ hz]; simp -implicitDefEqProofs
    · rfl
    · simp -implicitDefEqProofs
    · rintro x hx ρ ⟨a, b, rfl⟩
      obtain ⟨w, _, p, _, rfl⟩ := zipW_mem hx
      simp -implicitDefEqProofs [snd2]
    · exact ⟨_, _, rfl⟩
    · rintro ρ ⟨a, b, rfl⟩
      simp -implicitDefEqProofs
    · rw [zipW_len _ _ hz, encs_len]; omega
  | least n => simp -implicitDefEqProofs [n_parts_of, b_parts_of, enc, encs, encK, Sy.ch]
  | most n => simp -implicitDefEqProofs [n_parts_of, b_parts_of, enc, encs, encK, Sy.ch]
  | just n => simp -implicitDefEqProofs [n_parts_of, b_parts_of, enc, encs, encK, Sy.ch]
abbrev szs : List (PV × PV) := [(.str sYes, .int 1), (.str sNo, .int 1), (.str sLetter, .int 2), (.str sNot, .int 2), (.str sThen, .int 3), (.str sSame, .int 3), (.str sAll, .int 2), (.str sSome, .int 2), (.str sLeast, .int 3), (.str sMost, .int 3), (.str sJust, .int 3), (.str sSum, .int 3)]
theorem kind_start (C : CallSem) (a b : Slot) : exSs C b_is_kind [a, b, none, none] = exSs C (b_is_kind.drop 2) [a, b, some (.own, .dct 0 szs), none] := by
  simp -implicitDefEqProofs [b_is_kind, dPut]
theorem kind_spec (k : Nat) (L : Int) (s : Sy) (h : fine L s) : E (k + 1) 3 [some (.sh, .int L), some (.sh, enc s)] = .ok false (.bl true) [none, none] := by
  show callF ⟨2, n_is_kind.length, b_is_kind⟩ (E k) _ = _
  obtain ⟨kd, ch⟩ := s
  rw [fine] at h
  obtain ⟨h1, h2, _⟩ := h
  simp only [callF_eq, n_is_kind, List.length_cons, List.length_nil, List.replicate, List.cons_append, List.nil_append, kind_start, Nat.zero_add, Nat.reduceAdd, Nat.reduceSub]
  cases kd with
  | yes => simp only [kOk] at h1; subst h1; simp -implicitDefEqProofs [b_is_kind, enc, encs, encK]
  | no => simp only [kOk] at h1; subst h1; simp -implicitDefEqProofs [b_is_kind, enc, encs, encK]
  | letter i => simp only [kOk] at h1; obtain ⟨rfl, h3, h4⟩ := h1; simp -implicitDefEqProofs [b_is_kind, enc, encs, encK, h3, h4]
  | not => simp only [kOk] at h1; obtain ⟨a, rfl⟩ := h1; simp -implicitDefEqProofs [b_is_kind, enc, encs, encK]
  | thn => simp only [kOk] at h1; obtain ⟨a, b, rfl⟩ := h1; simp -implicitDefEqProofs [b_is_kind, enc, encs, encK]
  | same => simp only [kOk] at h1; obtain ⟨a, b, rfl⟩ := h1; simp -implicitDefEqProofs [b_is_kind, enc, encs, encK]
  | all => simp -implicitDefEqProofs [b_is_kind, enc, encs, encK]
  | any => simp -implicitDefEqProofs [b_is_kind, enc, encs, encK]
  | least n => simp only [kOk] at h1; simp -implicitDefEqProofs [b_is_kind, enc, encs, encK]; split <;> omega
  | most n => simp only [kOk] at h1; simp -implicitDefEqProofs [b_is_kind, enc, encs, encK]; split <;> omega
  | just n => simp only [kOk] at h1; simp -implicitDefEqProofs [b_is_kind, enc, encs, encK]; split <;> omega
  | sum n ws =>
    obtain ⟨hw, hn, hws⟩ := h1
    have hz : ws.length = (encs ch).length := by rw [encs_len]; exact hw
    have hn' : (if n < 0 then -n else n) ≤ 1000 := by split <;> omega
    simp -implicitDefEqProofs [b_is_kind, enc, encs, encK]
    rw [lcp_map (C := E k) [some (Stt.sh, PV.int L), some (Stt.sh, PV.tup [PV.str sSum, PV.int n, PV.tup (zipW ws (encs ch))]), some (Stt.own, PV.dct 0 szs), none] [some (Stt.sh, PV.int L), some (Stt.sh, PV.tup [PV.str sSum, PV.int n, PV.tup (zipW ws (encs ch))]), some (Stt.own, PV.dct 0 szs), none] (zipW ws (encs ch)) (fun _ => some (.bl true)) (fun ρ => ∃ a, ρ = [some (Stt.sh, PV.int L), some (Stt.sh, PV.tup [PV.str sSum, PV.int n, PV.tup (zipW ws (encs ch))]), some (Stt.own, PV.dct 0 szs), a])]
    · rw [fm_map (fun _ => .bl true)]
      simp -implicitDefEqProofs [allBl_pv (fun _ => true), hn']
    · rfl
    · simp -implicitDefEqProofs
    · rintro x hx ρ ⟨a, rfl⟩
      obtain ⟨w, hw, p, _, rfl⟩ := zipW_mem hx
      have hw' : (if w < 0 then -w else w) ≤ 1000 := by have := hws w hw; split <;> omega
      simp -implicitDefEqProofs [hw']
    · exact ⟨_, rfl⟩
    · rintro ρ ⟨a, rfl⟩
      simp -implicitDefEqProofs
    · rw [zipW_len _ _ hz, encs_len]; omega

/-! ### how many parts, how deep -/
mutual
def sz : Sy → Nat
  | .mk _ ch => 1 + szsL ch
def szsL : List Sy → Nat
  | [] => 0
  | s :: r => sz s + szsL r
end
mutual
def dp : Sy → Nat
  | .mk _ ch => 1 + dps ch
def dps : List Sy → Nat
  | [] => 0
  | s :: r => max (dp s) (dps r)
end
theorem dps_le (n : Nat) : ∀ ch : List Sy, dps ch ≤ n ↔ ∀ c ∈ ch, dp c ≤ n
  | [] => by simp -implicitDefEqProofs [dps]
  | c :: r => by
    have := dps_le n r
    simp only [dps, List.mem_cons, forall_eq_or_imp]
    rw [Nat.max_le, this]
theorem sz_pos (s : Sy) : 1 ≤ sz s := by cases s; simp -implicitDefEqProofs [sz]
theorem dp_pos (s : Sy) : 1 ≤ dp s := by cases s; simp -implicitDefEqProofs [dp]
/-- a stack's weight -/
def wt (f : Sy → Nat) : List (Sy × Nat) → Nat
  | [] => 0
  | p :: r => f p.1 + wt f r
theorem wt_app (f : Sy → Nat) : ∀ a b, wt f (a ++ b) = wt f a + wt f b
  | [], b => by simp -implicitDefEqProofs [wt]
  | p :: r, b => by simp -implicitDefEqProofs [wt, wt_app f r b, Nat.add_assoc]
theorem wt_rev (f : Sy → Nat) : ∀ a, wt f a.reverse = wt f a
  | [] => rfl
  | p :: r => by rw [List.reverse_cons, wt_app, wt_rev f r]; simp -implicitDefEqProofs [wt]; omega
theorem wt_ch (d : Nat) : ∀ ch : List Sy, wt sz (ch.map fun c => (c, d)) = szsL ch
  | [] => rfl
  | c :: r => by simp -implicitDefEqProofs [wt, szsL, wt_ch d r]
theorem wt_len : ∀ st : List (Sy × Nat), st.length ≤ wt sz st
  | [] => Nat.le_refl _
  | p :: r => by have := wt_len r; have := sz_pos p.1; simp -implicitDefEqProofs [wt]; omega
def pr (p : Sy × Nat) : PV := .tup [enc p.1, .int p.2]
def deepOk (st : List (Sy × Nat)) : Prop := ∀ p ∈ st, p.2 + dp p.1 ≤ 11
abbrev csC : IE := .cmp .gt (.blt .len (.var 2)) (.cst (.int 0))
abbrev csB : List IS := [.asg (.tup [(.name 4), (.name 5)]) (.met .pop 2 []), .aug 3 .add (.cst (.int 1)), .ifs (.or (.cmp .gt (.var 3) (.gint "MAX_PARTS" 120)) (.cmp .gt (.var 5) (.gint "MAX_DEPTH" 10))) [.raise 1] [], .ifs (.not (.call 3 [(.var 0), (.var 4)])) [.raise 0] [], .ex (.met .extend 2 [(.lcp [6] (.name 6) .seq [(.call 2 [(.var 4)])] [] (.tup [(.var 6), (.bin .add (.var 5) (.cst (.int 1)))]))])]
def shN (a : Slot) : Prop := a = none ∨ ∃ x, a = some (.sh, x)
theorem setS_shN {i : Nat} {fr : Bool} {d : PV} {a : Slot} {ρ : Rho} (h : shN a) : setS i fr d (some a) ρ = .ok () (ρ.set i (some (if fr then .own else .sh, d))) := by
  rcases h with rfl | ⟨x, rfl⟩ <;> rfl
/-- check_saying -/
theorem check_spec (k : Nat) (L : Int) (s0 : Sy) (h : fine L s0) (hs : sz s0 ≤ 100000) :
    (sz s0 ≤ 120 ∧ dp s0 ≤ 10 ∧ E (k + 2) 5 [some (.sh, .int L), some (.sh, enc s0)] = .ok false .non [none, none]) ∨ (¬ (sz s0 ≤ 120 ∧ dp s0 ≤ 10) ∧ E (k + 2) 5 [some (.sh, .int L), some (.sh, enc s0)] = .exc 1 .non) := by
  have key := whl_gen (C := E (k + 1)) (c := csC) (b := csB)
    (P := fun m ρ => ∃ (st : List (Sy × Nat)) (seen : Nat) (a b c : Slot), ρ = [some (.sh, .int L), some (.sh, enc s0), some (.own, .lst ((st.map pr).reverse)), some (.sh, .int seen), a, b, c] ∧ shN a ∧ shN b ∧ m = wt sz st ∧ seen + wt sz st = sz s0 ∧ seen ≤ 120 ∧ (∀ p ∈ st, fine L p.1) ∧ (dp s0 ≤ 10 ↔ deepOk st))
    (Q := fun r => (sz s0 ≤ 120 ∧ dp s0 ≤ 10 ∧ ∃ ρ, r = .ok .nx (some (.sh, .int L) :: some (.sh, enc s0) :: ρ)) ∨ (¬ (sz s0 ≤ 120 ∧ dp s0 ≤ 10) ∧ ∃ ρ, r = .exc 1 .non ρ)) (by simp -implicitDefEqProofs) (fun m ρ hP => ?_) (sz s0) [some (.sh, .int L), some (.sh, enc s0), some (.own, .lst [.tup [enc s0, .int 1]]), some (.sh, .int 0), none, none, none] ?_
  · rcases key with ⟨h1, h2, ρ, e⟩ | ⟨h1, ρ, e⟩
    · refine .inl ⟨h1, h2, ?_⟩
      show callF ⟨2, n_check_saying.length, b_check_saying⟩ (E (k + 1)) _ = _
      simp -implicitDefEqProofs [n_check_saying, b_check_saying]
      rw [e]
      simp -implicitDefEqProofs
    · refine .inr ⟨h1, ?_⟩
      show callF ⟨2, n_check_saying.length, b_check_saying⟩ (E (k + 1)) _ = _
      simp -implicitDefEqProofs [n_check_saying, b_check_saying]
      rw [e]
      simp -implicitDefEqProofs
  · obtain ⟨st, seen, a, b, c, rfl, ha, hb, rfl, hN, h120, hf, hd⟩ := hP
    cases st with
    | nil =>
      left
      simp -implicitDefEqProofs [wt] at hN
      exact ⟨false, [some (.sh, .int L), some (.sh, enc s0), some (.own, .lst []), some (.sh, .int seen), a, b, c], by simp -implicitDefEqProofs, .inl ⟨by omega, hd.mpr (by simp -implicitDefEqProofs [deepOk]), _, rfl⟩⟩
    | cons p st =>
      right
      obtain ⟨s, d⟩ := p
      have fs := hf (s, d) List.mem_cons_self
      have hl := wt_len st
      simp only [wt] at hN
      have hsp := sz_pos s
      have t1 : ev (E (k + 1)) true csC [some (.sh, .int L), some (.sh, enc s0), some (.own, .lst ((((s, d) :: st).map pr).reverse)), some (.sh, .int seen), a, b, c] = .ok (false, .bl true) [some (.sh, .int L), some (.sh, enc s0), some (.own, .lst ((((s, d) :: st).map pr).reverse)), some (.sh, .int seen), a, b, c] := by
        simp -implicitDefEqProofs [csC]
      by_cases big : seen + 1 > 120 ∨ d > 10
      · right
        refine ⟨false, _, 1, .non, [some (.sh, .int L), some (.sh, enc s0), some (.own, .lst ((st.map pr).reverse)), some (.sh, .int (seen + 1)), some (.sh, enc s), some (.sh, .int d), c], t1, ?_, .inr ⟨?_, _, rfl⟩⟩
        · by_cases b1 : 120 < (seen : Int) + 1
          · simp -implicitDefEqProofs [csB, pop_lst, pr, setS_shN ha, setS_shN hb, b1]
          · have b2 : 10 < (d : Int) := by omega
            simp -implicitDefEqProofs [csB, pop_lst, pr, setS_shN ha, setS_shN hb, b1, b2]
        · rintro ⟨z1, z2⟩
          rcases big with z | z
          · omega
          · have q1 : d + dp s ≤ 11 := (hd.mp z2) (s, d) List.mem_cons_self
            have := dp_pos s
            omega
      · left
        have b1 : ¬ 120 < (seen : Int) + 1 := by omega
        have b2 : ¬ 10 < (d : Int) := by omega
        obtain ⟨kd, ch⟩ := s
        have hks := kind_spec k L (.mk kd ch) fs
        have hps := parts_spec k L (.mk kd ch) fs
        rw [fine] at fs
        obtain ⟨f1, f2, f3⟩ := fs
        have hch : (encs ch).length < 1000 := by rw [encs_len]; exact f2
        refine ⟨false, _, [some (.sh, .int L), some (.sh, enc s0), some (.own, .lst (((((ch.map fun c => (c, d + 1)).reverse ++ st)).map pr).reverse)), some (.sh, .int ((seen + 1 : Nat) : Int)), some (.sh, enc (.mk kd ch)), some (.sh, .int d), c], szsL ch + wt sz st, t1, ?_, ?_, _, seen + 1, _, _, _, rfl, .inr ⟨_, rfl⟩, .inr ⟨_, rfl⟩, ?_, ?_, by omega, ?_, ?_⟩
        · simp -implicitDefEqProofs [csB, pop_lst, pr, setS_shN ha, setS_shN hb, b1, b2, hks]
          rw [lcp_map (C := E (k + 1)) [some (.sh, .int L), some (.sh, enc s0), some (.own, .lst ((st.map pr).reverse)), some (.sh, .int (seen + 1)), some (.sh, enc (.mk kd ch)), some (.sh, .int d), c] [some (.sh, .int L), some (.sh, enc s0), some (.own, .lst ((st.map pr).reverse)), some (.sh, .int (seen + 1)), some (.sh, enc (.mk kd ch)), some (.sh, .int d), c] (encs ch) (fun x => some (.tup [x, .int (d + 1)])) (fun ρ => ∃ c', ρ = [some (.sh, .int L), some (.sh, enc s0), some (.own, .lst ((st.map pr).reverse)), some (.sh, .int (seen + 1)), some (.sh, enc (.mk kd ch)), some (.sh, .int d), c'])]
          · rw [fm_map (fun x => .tup [x, .int (d + 1)])]
            have lo : st.length + ch.length ≤ 16777216 := by omega
            simp -implicitDefEqProofs [encs_len, lo]
            rw [encs_map]
            simp -implicitDefEqProofs [pr, Function.comp_def]
          · rfl
          · simp -implicitDefEqProofs [hps, Sy.ch]
          · rintro x hx ρ ⟨c', rfl⟩
            simp -implicitDefEqProofs
          · exact ⟨_, rfl⟩
          · rintro ρ ⟨c', rfl⟩
            simp -implicitDefEqProofs
          · omega
        · simp -implicitDefEqProofs [wt, sz]
        · rw [wt_app, wt_rev, wt_ch]
        · rw [wt_app, wt_rev, wt_ch]; simp -implicitDefEqProofs [sz] at hN ⊢; omega
        · intro p hp
          rcases List.mem_append.mp hp with hp | hp
          · obtain ⟨c1, hc1, rfl⟩ := List.mem_map.mp (List.mem_reverse.mp hp)
            exact fines_mem f3 c1 hc1
          · exact hf p (List.mem_cons_of_mem _ hp)
        · rw [hd]
          unfold deepOk
          have dd : d + dp (.mk kd ch) ≤ 11 ↔ ∀ c ∈ ch, d + 1 + dp c ≤ 11 := by
            have := dps_le (10 - d) ch
            simp only [dp]
            constructor
            · intro z c hc
              have := this.mp (by omega) c hc
              omega
            · intro z
              have := this.mpr fun c hc => by have := z c hc; omega
              omega
          constructor
          · intro z p hp
            rcases List.mem_append.mp hp with hp | hp
            · obtain ⟨c1, hc1, rfl⟩ := List.mem_map.mp (List.mem_reverse.mp hp)
              exact dd.mp (z _ List.mem_cons_self) c1 hc1
            · exact z p (List.mem_cons_of_mem _ hp)
          · intro z p hp
            rcases List.mem_cons.mp hp with rfl | hp
            · exact dd.mpr fun c hc => z (c, d + 1) (List.mem_append_left _ (List.mem_reverse.mpr (List.mem_map_of_mem hc)))
            · exact z p (List.mem_append_right _ hp)
  · exact ⟨[(s0, 1)], 0, none, none, none, by simp -implicitDefEqProofs [pr], .inl rfl, .inl rfl, by simp -implicitDefEqProofs [wt], by simp -implicitDefEqProofs [wt], by omega, by simpa using h, by simp -implicitDefEqProofs [deepOk]; omega⟩
end Cw.Ev
set_option Elab.async false
set_option linter.all false
set_option maxRecDepth 100000
set_option maxHeartbeats 4000000
set_option autoImplicit false
/-! k00, mathematics 2: what holds -/
namespace Cw.Ev
open PySem L2

def wsum (ws : List Int) (bs : List Bool) : Int := ((ws.zip bs).filterMap fun p => if p.2 = true then some p.1 else none).sum
def many (bs : List Bool) : Int := (bs.filter id).length
def valK (row : List Int) : Kd → List Bool → Bool
  | .yes, _ => true
  | .no, _ => false
  | .letter i, _ => row.getD (i - 1).toNat 0 == 1
  | .not, bs => !bs.getD 0 false
  | .thn, bs => !bs.getD 0 false || bs.getD 1 false
  | .same, bs => bs.getD 0 false == bs.getD 1 false
  | .all, bs => bs.all id
  | .any, bs => bs.any id
  | .sum n ws, bs => decide (n ≤ wsum ws bs)
  | .least n, bs => decide (n ≤ many bs)
  | .most n, bs => decide (many bs ≤ n)
  | .just n, bs => many bs == n
mutual
def val (row : List Int) : Sy → Bool
  | .mk k ch => valK row k (vals row ch)
def vals (row : List Int) : List Sy → List Bool
  | [] => []
  | s :: r => val row s :: vals row r
end
theorem vals_map (row : List Int) : ∀ l : List Sy, vals row l = l.map (val row)
  | [] => rfl
  | s :: r => by rw [vals, vals_map row r, List.map_cons]
abbrev rowV (row : List Int) : PV := .tup (row.map .int)
theorem many_fm (row : List Int) (ch : List Sy) : ((ch.filterMap fun c => if val row c = true then some (PV.bl (val row c)) else none).length : Int) = many (vals row ch) := by
  rw [vals_map]
  unfold many
  induction ch with
  | nil => rfl
  | cons c r ih =>
    simp only [List.filterMap_cons, List.map_cons, List.filter_cons, id]
    cases val row c <;> simp -implicitDefEqProofs at ih ⊢ <;> omega
theorem zipW_map (row : List Int) : ∀ (ws : List Int) (ch : List Sy), ws.length = ch.length → pairs (zipW ws (encs ch)) (ch.map fun c => PV.bl (val row c)) = (ws.zip ch).map fun p => .tup [.tup [.int p.1, enc p.2], .bl (val row p.2)]
  | [], [], _ => rfl
  | w :: ws, c :: ch, h => by
    simp only [List.length_cons, Nat.add_right_cancel_iff] at h
    simp -implicitDefEqProofs [encs, zipW, pairs, zipW_map row ws ch h]
  | [], _ :: _, h => by simp -implicitDefEqProofs at h
  | _ :: _, [], h => by simp -implicitDefEqProofs at h
theorem wsum_fm (row : List Int) : ∀ (ws : List Int) (ch : List Sy), ∃ ns : List Int, (ws.zip ch).filterMap (fun p => if val row p.2 = true then some (PV.int p.1) else none) = ns.map PV.int ∧ ns.sum = wsum ws (vals row ch)
  | [], _ => ⟨[], rfl, rfl⟩
  | _ :: _, [] => ⟨[], rfl, rfl⟩
  | w :: ws, c :: ch => by
    obtain ⟨ns, h1, h2⟩ := wsum_fm row ws ch
    cases e : val row c with
    | true => exact ⟨w :: ns, by simp -implicitDefEqProofs [e, h1], by simp -implicitDefEqProofs [wsum, vals, e, h2]⟩
    | false => exact ⟨ns, by simp -implicitDefEqProofs [e, h1], by simp -implicitDefEqProofs [wsum, vals, e, h2]⟩
/-- known_holds -/
theorem known_spec (row : List Int) (L : Int) (hL : (row.length : Int) = L) : ∀ (n k : Nat) (s : Sy), dp s ≤ n → fine L s → E (n + (k + 1) + 1) 6 [some (.sh, enc s), some (.sh, rowV row)] = .ok false (.bl (val row s)) [none, none]
  | 0, k, s, h, _ => absurd h (by have := dp_pos s; omega)
  | n + 1, k, .mk kd ch, hd, h => by
    have ih := known_spec row L hL n k
    have hps := parts_spec (n + (k + 1)) L (.mk kd ch) h
    have hk : n + 1 + (k + 1) + 1 = (n + (k + 1) + 1) + 1 := by omega
    rw [hk]
    show callF ⟨2, n_known_holds.length, b_known_holds⟩ (E (n + (k + 1) + 1)) _ = _
    have hdc : ∀ c ∈ ch, dp c ≤ n := (dps_le n ch).mp (by simp only [dp] at hd; omega)
    have f := h
    rw [fine] at f
    obtain ⟨h1, h2, h3⟩ := f
    have told : ∀ a : PV, ev (E (n + (k + 1) + 1)) false (.lcp [5] (.name 5) .seq [(.call 2 [(.var 0)])] [] (.call 6 [(.var 5), (.var 1)])) [some (.sh, enc (.mk kd ch)), some (.sh, rowV row), some (.sh, a), none, none, none, none, none, none] = .ok (true, .lst (ch.map fun c => .bl (val row c))) [some (.sh, enc (.mk kd ch)), some (.sh, rowV row), some (.sh, a), none, none, none, none, none, none] := fun a => by
      rw [lcp_list (C := E (n + (k + 1) + 1)) [some (.sh, enc (.mk kd ch)), some (.sh, rowV row), some (.sh, a), none, none, none, none, none, none] [some (.sh, enc (.mk kd ch)), some (.sh, rowV row), some (.sh, a), none, none, none, none, none, none] ch enc (fun c => some (.bl (val row c))) (fun ρ => ∃ c', ρ = [some (.sh, enc (.mk kd ch)), some (.sh, rowV row), some (.sh, a), none, none, c', none, none, none])]
      · rw [fm_some]
      · rfl
      · simp -implicitDefEqProofs [hps, Sy.ch, encs_map]
      · rintro c hc ρ ⟨c', rfl⟩
        have := ih c (hdc c hc) (fines_mem h3 c hc)
        simp -implicitDefEqProofs [rowV] at this
        simp -implicitDefEqProofs [this]
      · exact ⟨_, rfl⟩
      · rintro ρ ⟨c', rfl⟩
        simp -implicitDefEqProofs
      · omega
    simp only [enc] at told
    cases kd with
    | yes => simp -implicitDefEqProofs [n_known_holds, b_known_holds, enc, encK, val, valK]
    | no => simp -implicitDefEqProofs [n_known_holds, b_known_holds, enc, encK, val, valK]
    | letter i =>
      simp only [kOk] at h1
      obtain ⟨rfl, h4, h5⟩ := h1
      have := ixAt_row row (i - 1) (by omega) (by omega)
      simp -implicitDefEqProofs [n_known_holds, b_known_holds, enc, encK, val, valK, this]
    | not =>
      simp only [kOk] at h1
      obtain ⟨a, rfl⟩ := h1
      simp -implicitDefEqProofs [encK, encs] at told
      simp -implicitDefEqProofs [n_known_holds, b_known_holds, enc, encK, encs, val, vals, valK, told]
    | thn =>
      simp only [kOk] at h1
      obtain ⟨a, b, rfl⟩ := h1
      simp -implicitDefEqProofs [encK, encs] at told
      simp -implicitDefEqProofs [n_known_holds, b_known_holds, enc, encK, encs, val, vals, valK, told]
      cases val row a <;> simp -implicitDefEqProofs
    | same =>
      simp only [kOk] at h1
      obtain ⟨a, b, rfl⟩ := h1
      simp -implicitDefEqProofs [encK, encs] at told
      simp -implicitDefEqProofs [n_known_holds, b_known_holds, enc, encK, encs, val, vals, valK, told]
    | all =>
      simp -implicitDefEqProofs [encK] at told
      simp -implicitDefEqProofs [n_known_holds, b_known_holds, enc, encK, val, valK, told, allBl_of, vals_map]
    | any =>
      simp -implicitDefEqProofs [encK] at told
      simp -implicitDefEqProofs [n_known_holds, b_known_holds, enc, encK, val, valK, told, allBl_of, vals_map]
    | sum m ws =>
      simp only [kOk] at h1
      simp -implicitDefEqProofs [encK] at told
      simp -implicitDefEqProofs [n_known_holds, b_known_holds, enc, encK, val, valK, told]
      rw [lcp_list (C := E (n + (k + 1) + 1)) [some (.sh, encK (.sum m ws) (encs ch)), some (.sh, rowV row), some (.sh, .str sSum), some (.sh, .lst (ch.map fun c => .bl (val row c))), none, none, none, none, none] [some (.sh, encK (.sum m ws) (encs ch)), some (.sh, rowV row), some (.sh, .str sSum), some (.sh, .lst (ch.map fun c => .bl (val row c))), none, none, none, none, none] (ws.zip ch) (fun p => .tup [.tup [.int p.1, enc p.2], .bl (val row p.2)]) (fun p => if val row p.2 = true then some (.int p.1) else none) (fun ρ => ∃ x y z, ρ = [some (.sh, encK (.sum m ws) (encs ch)), some (.sh, rowV row), some (.sh, .str sSum), some (.sh, .lst (ch.map fun c => .bl (val row c))), none, none, x, y, z])]
      · obtain ⟨ns, q1, q2⟩ := wsum_fm row ws ch
        simp -implicitDefEqProofs [q1, allInt_map, q2, encK]
      · rfl
      · simp -implicitDefEqProofs [encK, zipW_map row ws ch h1.1]
      · rintro ⟨w, c⟩ hc ρ ⟨x, y, z, rfl⟩
        cases e : val row c <;> simp -implicitDefEqProofs [e]
      · exact ⟨_, _, _, rfl⟩
      · rintro ρ ⟨x, y, z, rfl⟩
        simp -implicitDefEqProofs
      · rw [List.length_zip]; omega
    | least m =>
      simp -implicitDefEqProofs [encK] at told
      simp -implicitDefEqProofs [n_known_holds, b_known_holds, enc, encK, val, valK, told]
      rw [lcp_list (C := E (n + (k + 1) + 1)) [some (.sh, encK (.least m) (encs ch)), some (.sh, rowV row), some (.sh, .str sLeast), some (.sh, .lst (ch.map fun c => .bl (val row c))), none, none, none, none, none] [some (.sh, encK (.least m) (encs ch)), some (.sh, rowV row), some (.sh, .str sLeast), some (.sh, .lst (ch.map fun c => .bl (val row c))), none, none, none, none, none] ch (fun c => .bl (val row c)) (fun c => if val row c = true then some (.bl (val row c)) else none) (fun ρ => ∃ x, ρ = [some (.sh, encK (.least m) (encs ch)), some (.sh, rowV row), some (.sh, .str sLeast), some (.sh, .lst (ch.map fun c => .bl (val row c))), none, none, x, none, none])]
      · simp -implicitDefEqProofs [encK, many_fm, dPut]
      · rfl
      · simp -implicitDefEqProofs [encK]
      · rintro c hc ρ ⟨x, rfl⟩
        cases e : val row c <;> simp -implicitDefEqProofs [e]
      · exact ⟨_, rfl⟩
      · rintro ρ ⟨x, rfl⟩
        simp -implicitDefEqProofs
      · omega
    | most m =>
      simp -implicitDefEqProofs [encK] at told
      simp -implicitDefEqProofs [n_known_holds, b_known_holds, enc, encK, val, valK, told]
      rw [lcp_list (C := E (n + (k + 1) + 1)) [some (.sh, encK (.most m) (encs ch)), some (.sh, rowV row), some (.sh, .str sMost), some (.sh, .lst (ch.map fun c => .bl (val row c))), none, none, none, none, none] [some (.sh, encK (.most m) (encs ch)), some (.sh, rowV row), some (.sh, .str sMost), some (.sh, .lst (ch.map fun c => .bl (val row c))), none, none, none, none, none] ch (fun c => .bl (val row c)) (fun c => if val row c = true then some (.bl (val row c)) else none) (fun ρ => ∃ x, ρ = [some (.sh, encK (.most m) (encs ch)), some (.sh, rowV row), some (.sh, .str sMost), some (.sh, .lst (ch.map fun c => .bl (val row c))), none, none, x, none, none])]
      · simp -implicitDefEqProofs [encK, many_fm, dPut]
      · rfl
      · simp -implicitDefEqProofs [encK]
      · rintro c hc ρ ⟨x, rfl⟩
        cases e : val row c <;> simp -implicitDefEqProofs [e]
      · exact ⟨_, rfl⟩
      · rintro ρ ⟨x, rfl⟩
        simp -implicitDefEqProofs
      · omega
    | just m =>
      simp -implicitDefEqProofs [encK] at told
      simp -implicitDefEqProofs [n_known_holds, b_known_holds, enc, encK, val, valK, told]
      rw [lcp_list (C := E (n + (k + 1) + 1)) [some (.sh, encK (.just m) (encs ch)), some (.sh, rowV row), some (.sh, .str sJust), some (.sh, .lst (ch.map fun c => .bl (val row c))), none, none, none, none, none] [some (.sh, encK (.just m) (encs ch)), some (.sh, rowV row), some (.sh, .str sJust), some (.sh, .lst (ch.map fun c => .bl (val row c))), none, none, none, none, none] ch (fun c => .bl (val row c)) (fun c => if val row c = true then some (.bl (val row c)) else none) (fun ρ => ∃ x, ρ = [some (.sh, encK (.just m) (encs ch)), some (.sh, rowV row), some (.sh, .str sJust), some (.sh, .lst (ch.map fun c => .bl (val row c))), none, none, x, none, none])]
      · simp -implicitDefEqProofs [encK, many_fm, dPut]
      · rfl
      · simp -implicitDefEqProofs [encK]
      · rintro c hc ρ ⟨x, rfl⟩
        cases e : val row c <;> simp -implicitDefEqProofs [e]
      · exact ⟨_, rfl⟩
      · rintro ρ ⟨x, rfl⟩
        simp -implicitDefEqProofs
      · omega
end Cw.Ev
set_option Elab.async false
set_option linter.all false
set_option maxRecDepth 100000
set_option maxHeartbeats 4000000
set_option autoImplicit false
/-! k00, mathematics 3: the law's own reading -/
namespace Cw.Ev
open PySem L2

theorem zipW_two : ∀ (ws : List Int) (ch : List Sy), zipW ws (encs ch) = (ws.zip ch).map fun p => .tup [.int p.1, enc p.2]
  | [], _ => rfl
  | _ :: _, [] => rfl
  | w :: ws, c :: ch => by simp -implicitDefEqProofs [encs, zipW, zipW_two ws ch]
def b01 (b : Bool) : Int := if b = true then 1 else 0
theorem b01_small (b : Bool) : -18446744073709551616 < b01 b ∧ b01 b < 18446744073709551616 := by cases b <;> simp -implicitDefEqProofs [b01]
theorem wsum_mul (row : List Int) : ∀ (ws : List Int) (ch : List Sy), ((ws.zip ch).map fun p => p.1 * b01 (val row p.2)).sum = wsum ws (vals row ch)
  | [], _ => rfl
  | _ :: _, [] => rfl
  | w :: ws, c :: ch => by
    have ih := wsum_mul row ws ch
    cases e : val row c <;> simp -implicitDefEqProofs [wsum, vals, e, b01] at ih ⊢ <;> exact ih
theorem many_sum (row : List Int) : ∀ ch : List Sy, (ch.map fun c => b01 (val row c)).sum = many (vals row ch)
  | [] => rfl
  | c :: ch => by
    have ih := many_sum row ch
    cases e : val row c <;> simp -implicitDefEqProofs [many, vals, e, b01] at ih ⊢ <;> omega
theorem many_le (bs : List Bool) : many bs ≤ bs.length := by
  have := List.length_filter_le id bs
  unfold many
  omega
theorem many_all : ∀ bs : List Bool, (many bs == (bs.length : Int)) = bs.all id
  | [] => rfl
  | b :: bs => by
    have ih := many_all bs
    have := many_le bs
    cases b
    · simp -implicitDefEqProofs [many] at ih ⊢
      simp -implicitDefEqProofs [many] at this
      omega
    · simp -implicitDefEqProofs [many] at ih ⊢
      rw [← ih]
      rw [Bool.eq_iff_iff]
      simp -implicitDefEqProofs
theorem many_any : ∀ bs : List Bool, decide (0 < many bs) = bs.any id
  | [] => rfl
  | b :: bs => by
    have ih := many_any bs
    cases b
    · simp -implicitDefEqProofs [many] at ih ⊢; exact ih
    · simp -implicitDefEqProofs [many]
theorem vals_len (row : List Int) (ch : List Sy) : (vals row ch).length = ch.length := by rw [vals_map, List.length_map]
/-- _law_value -/
theorem value_spec (row : List Int) (L : Int) (hL : (row.length : Int) = L) : ∀ (n k : Nat) (s : Sy), dp s ≤ n → fine L s → E (n + k + 1) 16 [some (.sh, enc s), some (.sh, rowV row)] = .ok false (.bl (val row s)) [none, none]
  | 0, k, s, h, _ => absurd h (by have := dp_pos s; omega)
  | n + 1, k, .mk kd ch, hd, h => by
    have hk : n + 1 + k + 1 = (n + k + 1) + 1 := by omega
    rw [hk]
    show callF ⟨2, n_law_value.length, b_law_value⟩ (E (n + k + 1)) _ = _
    have hdc : ∀ c ∈ ch, dp c ≤ n := (dps_le n ch).mp (by simp only [dp] at hd; omega)
    have f := h
    rw [fine] at f
    obtain ⟨h1, h2, h3⟩ := f
    have ih : ∀ c ∈ ch, E (n + k + 1) 16 [some (.sh, enc c), some (.sh, rowV row)] = .ok false (.bl (val row c)) [none, none] := fun c hc => value_spec row L hL n k c (hdc c hc) (fines_mem h3 c hc)
    simp only [rowV] at ih
    cases kd with
    | yes => simp -implicitDefEqProofs [n_law_value, b_law_value, enc, encK, val, valK]
    | no => simp -implicitDefEqProofs [n_law_value, b_law_value, enc, encK, val, valK]
    | letter i =>
      simp only [kOk] at h1
      obtain ⟨rfl, h4, h5⟩ := h1
      have := ixAt_row row (i - 1) (by omega) (by omega)
      simp -implicitDefEqProofs [n_law_value, b_law_value, enc, encK, val, valK, this]
    | not =>
      simp only [kOk] at h1
      obtain ⟨a, rfl⟩ := h1
      simp -implicitDefEqProofs [n_law_value, b_law_value, enc, encK, encs, val, vals, valK, ih a (by simp -implicitDefEqProofs)]
    | thn =>
      simp only [kOk] at h1
      obtain ⟨a, b, rfl⟩ := h1
      simp -implicitDefEqProofs [n_law_value, b_law_value, enc, encK, encs, val, vals, valK, ih a (by simp -implicitDefEqProofs), ih b (by simp -implicitDefEqProofs)]
      cases val row a <;> cases val row b <;> simp -implicitDefEqProofs [ih a (by simp -implicitDefEqProofs)]
    | same =>
      simp only [kOk] at h1
      obtain ⟨a, b, rfl⟩ := h1
      simp -implicitDefEqProofs [n_law_value, b_law_value, enc, encK, encs, val, vals, valK, ih a (by simp -implicitDefEqProofs), ih b (by simp -implicitDefEqProofs)]
    | sum m ws =>
      simp only [kOk] at h1
      simp -implicitDefEqProofs [n_law_value, b_law_value, enc, encK, val, valK]
      rw [lcp_list (C := E (n + k + 1)) [some (.sh, encK (.sum m ws) (encs ch)), some (.sh, rowV row), some (.sh, .str sSum), none, none, none] [some (.sh, encK (.sum m ws) (encs ch)), some (.sh, rowV row), some (.sh, .str sSum), none, none, none] (ws.zip ch) (fun p => .tup [.int p.1, enc p.2]) (fun p => some (.int (p.1 * b01 (val row p.2)))) (fun ρ => ∃ x y, ρ = [some (.sh, encK (.sum m ws) (encs ch)), some (.sh, rowV row), some (.sh, .str sSum), none, x, y])]
      · simp -implicitDefEqProofs [fm_some, allInt_of, wsum_mul, encK]
      · rfl
      · simp -implicitDefEqProofs [encK, zipW_two]
      · rintro ⟨w, c⟩ hc ρ ⟨x, y, rfl⟩
        have := ih c (List.of_mem_zip hc).2
        have b1 := b01_small (val row c)
        simp only [b01] at b1
        simp -implicitDefEqProofs [this, b1, b01]
      · exact ⟨_, _, rfl⟩
      · rintro ρ ⟨x, y, rfl⟩
        simp -implicitDefEqProofs
      · rw [List.length_zip]; omega
    | all =>
      simp -implicitDefEqProofs [n_law_value, b_law_value, enc, encK, val, valK]
      rw [lcp_list (C := E (n + k + 1)) [some (.sh, encK (.all) (encs ch)), some (.sh, rowV row), some (.sh, .str sAll), none, none, none] [some (.sh, encK (.all) (encs ch)), some (.sh, rowV row), some (.sh, .str sAll), none, none, none] ch enc (fun c => some (.int (b01 (val row c)))) (fun ρ => ∃ x, ρ = [some (.sh, encK (.all) (encs ch)), some (.sh, rowV row), some (.sh, .str sAll), none, x, none])]
      · simp -implicitDefEqProofs [fm_some, allInt_of, many_sum, encK, encs_len]
        rw [← many_all, vals_len]
      · rfl
      · simp -implicitDefEqProofs [encK, encs_map]
      · rintro c hc ρ ⟨x, rfl⟩
        simp -implicitDefEqProofs [ih c hc, b01]
      · exact ⟨_, rfl⟩
      · rintro ρ ⟨x, rfl⟩
        simp -implicitDefEqProofs
      · omega
    | any =>
      simp -implicitDefEqProofs [n_law_value, b_law_value, enc, encK, val, valK]
      rw [lcp_list (C := E (n + k + 1)) [some (.sh, encK (.any) (encs ch)), some (.sh, rowV row), some (.sh, .str sSome), none, none, none] [some (.sh, encK (.any) (encs ch)), some (.sh, rowV row), some (.sh, .str sSome), none, none, none] ch enc (fun c => some (.int (b01 (val row c)))) (fun ρ => ∃ x, ρ = [some (.sh, encK (.any) (encs ch)), some (.sh, rowV row), some (.sh, .str sSome), none, x, none])]
      · simp -implicitDefEqProofs [fm_some, allInt_of, many_sum, encK]
        exact many_any _
      · rfl
      · simp -implicitDefEqProofs [encK, encs_map]
      · rintro c hc ρ ⟨x, rfl⟩
        simp -implicitDefEqProofs [ih c hc, b01]
      · exact ⟨_, rfl⟩
      · rintro ρ ⟨x, rfl⟩
        simp -implicitDefEqProofs
      · omega
    | least m =>
      simp -implicitDefEqProofs [n_law_value, b_law_value, enc, encK, val, valK]
      rw [lcp_list (C := E (n + k + 1)) [some (.sh, encK (.least m) (encs ch)), some (.sh, rowV row), some (.sh, .str sLeast), none, none, none] [some (.sh, encK (.least m) (encs ch)), some (.sh, rowV row), some (.sh, .str sLeast), none, none, none] ch enc (fun c => some (.int (b01 (val row c)))) (fun ρ => ∃ x, ρ = [some (.sh, encK (.least m) (encs ch)), some (.sh, rowV row), some (.sh, .str sLeast), none, x, none])]
      · simp -implicitDefEqProofs [fm_some, allInt_of, many_sum, encK, dPut]
      · rfl
      · simp -implicitDefEqProofs [encK, encs_map]
      · rintro c hc ρ ⟨x, rfl⟩
        simp -implicitDefEqProofs [ih c hc, b01]
      · exact ⟨_, rfl⟩
      · rintro ρ ⟨x, rfl⟩
        simp -implicitDefEqProofs
      · omega
    | most m =>
      simp -implicitDefEqProofs [n_law_value, b_law_value, enc, encK, val, valK]
      rw [lcp_list (C := E (n + k + 1)) [some (.sh, encK (.most m) (encs ch)), some (.sh, rowV row), some (.sh, .str sMost), none, none, none] [some (.sh, encK (.most m) (encs ch)), some (.sh, rowV row), some (.sh, .str sMost), none, none, none] ch enc (fun c => some (.int (b01 (val row c)))) (fun ρ => ∃ x, ρ = [some (.sh, encK (.most m) (encs ch)), some (.sh, rowV row), some (.sh, .str sMost), none, x, none])]
      · simp -implicitDefEqProofs [fm_some, allInt_of, many_sum, encK, dPut]
      · rfl
      · simp -implicitDefEqProofs [encK, encs_map]
      · rintro c hc ρ ⟨x, rfl⟩
        simp -implicitDefEqProofs [ih c hc, b01]
      · exact ⟨_, rfl⟩
      · rintro ρ ⟨x, rfl⟩
        simp -implicitDefEqProofs
      · omega
    | just m =>
      simp -implicitDefEqProofs [n_law_value, b_law_value, enc, encK, val, valK]
      rw [lcp_list (C := E (n + k + 1)) [some (.sh, encK (.just m) (encs ch)), some (.sh, rowV row), some (.sh, .str sJust), none, none, none] [some (.sh, encK (.just m) (encs ch)), some (.sh, rowV row), some (.sh, .str sJust), none, none, none] ch enc (fun c => some (.int (b01 (val row c)))) (fun ρ => ∃ x, ρ = [some (.sh, encK (.just m) (encs ch)), some (.sh, rowV row), some (.sh, .str sJust), none, x, none])]
      · simp -implicitDefEqProofs [fm_some, allInt_of, many_sum, encK, dPut]
      · rfl
      · simp -implicitDefEqProofs [encK, encs_map]
      · rintro c hc ρ ⟨x, rfl⟩
        simp -implicitDefEqProofs [ih c hc, b01]
      · exact ⟨_, rfl⟩
      · rintro ρ ⟨x, rfl⟩
        simp -implicitDefEqProofs
      · omega
end Cw.Ev
set_option Elab.async false
set_option linter.all false
set_option maxRecDepth 100000
set_option maxHeartbeats 4000000
set_option autoImplicit false
/-! k00, mathematics 4: walks, rows -/
namespace Cw.Ev
open PySem L2

theorem E15 (k : Nat) (as : List Slot) : E (k + 1) 15 as = callF ⟨1, n_law_rows.length, b_law_rows⟩ (E k) as := rfl
theorem E1 (k : Nat) (as : List Slot) : E (k + 1) 1 as = callF ⟨1, n_all_rows.length, b_all_rows⟩ (E k) as := rfl
mutual
def walk : Sy → List Sy
  | .mk k ch => .mk k ch :: walks ch
def walks : List Sy → List Sy
  | [] => []
  | s :: r => walk s ++ walks r
end
mutual
theorem walk_len : ∀ s : Sy, (walk s).length = sz s
  | .mk k ch => by simp -implicitDefEqProofs [walk, sz, walks_len ch]; omega
theorem walks_len : ∀ l : List Sy, (walks l).length = szsL l
  | [] => rfl
  | s :: r => by simp -implicitDefEqProofs [walks, szsL, walk_len s, walks_len r]
end
theorem walks_app : ∀ a b : List Sy, walks (a ++ b) = walks a ++ walks b
  | [], b => rfl
  | s :: r, b => by simp -implicitDefEqProofs [walks, walks_app r b]
theorem within_spec (k : Nat) (L : Int) (s : Sy) (h : fine L s) : E (k + 1) 20 [some (.sh, enc s)] = .ok true (.lst (encs s.ch)) [none] := by
  show callF ⟨1, n_law_within.length, b_law_within⟩ (E k) _ = _
  obtain ⟨kd, ch⟩ := s
  rw [fine] at h
  obtain ⟨h1, h2, _⟩ := h
  cases kd with
  | yes => simp only [kOk] at h1; subst h1; simp -implicitDefEqProofs [n_law_within, b_law_within, enc, encs, encK, Sy.ch]
  | no => simp only [kOk] at h1; subst h1; simp -implicitDefEqProofs [n_law_within, b_law_within, enc, encs, encK, Sy.ch]
  | letter i => simp only [kOk] at h1; obtain ⟨rfl, _⟩ := h1; simp -implicitDefEqProofs [n_law_within, b_law_within, enc, encs, encK, Sy.ch]
  | not => simp only [kOk] at h1; obtain ⟨a, rfl⟩ := h1; simp -implicitDefEqProofs [n_law_within, b_law_within, enc, encs, encK, Sy.ch]
  | thn => simp only [kOk] at h1; obtain ⟨a, b, rfl⟩ := h1; simp -implicitDefEqProofs [n_law_within, b_law_within, enc, encs, encK, Sy.ch]
  | same => simp only [kOk] at h1; obtain ⟨a, b, rfl⟩ := h1; simp -implicitDefEqProofs [n_law_within, b_law_within, enc, encs, encK, Sy.ch]
  | all => simp -implicitDefEqProofs [n_law_within, b_law_within, enc, encK, Sy.ch]
  | any => simp -implicitDefEqProofs [n_law_within, b_law_within, enc, encK, Sy.ch]
  | least n => simp -implicitDefEqProofs [n_law_within, b_law_within, enc, encK, Sy.ch]
  | most n => simp -implicitDefEqProofs [n_law_within, b_law_within, enc, encK, Sy.ch]
  | just n => simp -implicitDefEqProofs [n_law_within, b_law_within, enc, encK, Sy.ch]
  | sum n ws =>
    obtain ⟨hw, _, _⟩ := h1
    have hz : ws.length = (encs ch).length := by rw [encs_len]; exact hw
    simp -implicitDefEqProofs [n_law_within, b_law_within, enc, encK, Sy.ch]
    rw [lcp_map (C := E k) [some (.sh, encK (.sum n ws) (encs ch)), some (.sh, .str sSum), none, none] [some (.sh, encK (.sum n ws) (encs ch)), some (.sh, .str sSum), none, none] (zipW ws (encs ch)) snd2 (fun ρ => ∃ a b, ρ = [some (.sh, encK (.sum n ws) (encs ch)), some (.sh, .str sSum), a, b])]
    · rw [zipW_snd _ _ hz]; simp -implicitDefEqProofs [encK]
    · rfl
    · simp -implicitDefEqProofs [encK]
    · rintro x hx ρ ⟨a, b, rfl⟩
      obtain ⟨w, _, p, _, rfl⟩ := zipW_mem hx
      simp -implicitDefEqProofs [snd2]
    · exact ⟨_, _, rfl⟩
    · rintro ρ ⟨a, b, rfl⟩
      simp -implicitDefEqProofs
    · rw [zipW_len _ _ hz, encs_len]; omega
theorem szs_mem : ∀ {l : List Sy} {c : Sy}, c ∈ l → sz c ≤ szsL l
  | [], _, h => by cases h
  | a :: r, c, h => by
    rcases List.mem_cons.mp h with rfl | e
    · simp -implicitDefEqProofs [szsL]
    · have := szs_mem e; simp -implicitDefEqProofs [szsL]; omega
theorem szsL_app : ∀ a b : List Sy, szsL (a ++ b) = szsL a + szsL b
  | [], b => by simp -implicitDefEqProofs [szsL]
  | s :: r, b => by simp -implicitDefEqProofs [szsL, szsL_app r b, Nat.add_assoc]
theorem walk_spec (L : Int) : ∀ (n k : Nat) (s : Sy), dp s ≤ n → fine L s → sz s ≤ 100000 → E (n + (k + 1) + 1) 21 [some (.sh, enc s)] = .ok true (.lst ((walk s).map enc)) [none]
  | 0, k, s, h, _, _ => absurd h (by have := dp_pos s; omega)
  | n + 1, k, .mk kd ch, hd, h, hs => by
    have hk : n + 1 + (k + 1) + 1 = (n + (k + 1) + 1) + 1 := by omega
    rw [hk]
    have hw := within_spec (n + (k + 1)) L (.mk kd ch) h
    have hdc : ∀ c ∈ ch, dp c ≤ n := (dps_le n ch).mp (by simp only [dp] at hd; omega)
    rw [fine] at h
    obtain ⟨h1, h2, h3⟩ := h
    simp only [sz] at hs
    have ih : ∀ c ∈ ch, E (n + (k + 1) + 1) 21 [some (.sh, enc c)] = .ok true (.lst ((walk c).map enc)) [none] := fun c hc => walk_spec L n k c (hdc c hc) (fines_mem h3 c hc) (by have := szs_mem hc; omega)
    show callF ⟨1, n_law_walk.length, b_law_walk⟩ (E (n + (k + 1) + 1)) _ = _
    obtain ⟨ρ', e, x, rfl, hx⟩ := for_run (C := E (n + (k + 1) + 1)) (tg := .name 2) (ik := .seq) (its := [(.call 20 [(.var 0)])]) (b := [.asg (.name 1) (.bin .add (.var 1) (.call 21 [(.var 2)]))]) (ρ := [some (.sh, enc (.mk kd ch)), some (.own, .lst [enc (.mk kd ch)]), none])
      [some (.sh, enc (.mk kd ch)), some (.own, .lst [enc (.mk kd ch)]), none] (ch.map enc) (fun i ρ => ∃ x, ρ = [some (.sh, enc (.mk kd ch)), some (.own, .lst (enc (.mk kd ch) :: (walks (ch.take i)).map enc)), x] ∧ shN x) rfl (by simp -implicitDefEqProofs [hw, Sy.ch, encs_map]) (fun i x ρ hi hP => by
        obtain ⟨y, rfl, hy⟩ := hP
        obtain ⟨c, hc, rfl⟩ := map_at hi
        have hcm := List.mem_of_getElem? hc
        have l1 : (walks (ch.take i)).length + (walk c).length ≤ szsL ch := by
          have q := congrArg szsL (List.take_append_drop (i + 1) ch)
          rw [szsL_app, take_at hc, szsL_app] at q
          rw [walks_len, walk_len]
          simp -implicitDefEqProofs [szsL] at q
          omega
        have l2 : (walks (ch.take i)).length + 1 + (walk c).length ≤ 16777216 := by omega
        refine ⟨[some (.sh, enc (.mk kd ch)), some (.own, .lst (enc (.mk kd ch) :: (walks (ch.take (i + 1))).map enc)), some (.sh, enc c)], ?_, _, rfl, .inr ⟨_, rfl⟩⟩
        simp -implicitDefEqProofs [setS_shN hy, ih c hcm, l2, take_at hc, walks_app, walks]) ⟨_, rfl, .inl rfl⟩
    simp -implicitDefEqProofs [n_law_walk, b_law_walk]
    rw [e]
    simp -implicitDefEqProofs [walk]

/-! ### rows -/
def rowsN : Nat → List (List Int)
  | 0 => [[]]
  | n + 1 => (rowsN n).flatMap fun r => [r ++ [0], r ++ [1]]
theorem flat2_len {α β : Type} (f g : α → β) : ∀ l : List α, (l.flatMap fun r => [f r, g r]).length = 2 * l.length
  | [] => rfl
  | a :: l => by simp -implicitDefEqProofs [flat2_len f g l]; omega
theorem rowsN_len : ∀ n, (rowsN n).length = 2 ^ n
  | 0 => rfl
  | n + 1 => by rw [rowsN, flat2_len, rowsN_len n, Nat.pow_succ]; omega
theorem rowsN_mem : ∀ {n : Nat} {r : List Int}, r ∈ rowsN n → r.length = n ∧ ∀ x ∈ r, x = 0 ∨ x = 1
  | 0, r, h => by simp -implicitDefEqProofs [rowsN] at h; subst h; simp -implicitDefEqProofs
  | n + 1, r, h => by
    simp only [rowsN, List.mem_flatMap] at h
    obtain ⟨a, ha, h⟩ := h
    obtain ⟨h1, h2⟩ := rowsN_mem ha
    have : r = a ++ [0] ∨ r = a ++ [1] := by simpa using h
    rcases this with rfl | rfl
    · exact ⟨by simp -implicitDefEqProofs [h1], fun x hx => by rcases List.mem_append.mp hx with hx | hx; exact h2 x hx; simp -implicitDefEqProofs at hx; exact .inl hx⟩
    · exact ⟨by simp -implicitDefEqProofs [h1], fun x hx => by rcases List.mem_append.mp hx with hx | hx; exact h2 x hx; simp -implicitDefEqProofs at hx; exact .inr hx⟩
abbrev rowW (row : List Int) : PV := .tup (row.map .int)
/-- is_row -/
theorem isrow_spec (k : Nat) (L : Int) (row : List Int) (hl : row.length ≤ 16777216) : E (k + 1) 0 [some (.sh, .int L), some (.sh, rowW row)] = .ok false (.bl (((row.length : Int) == L) && row.all fun x => 0 == x || 1 == x)) [none, none] := by
  show callF ⟨2, n_is_row.length, b_is_row⟩ (E k) _ = _
  simp -implicitDefEqProofs [n_is_row, b_is_row, rowW]
  by_cases c : (row.length : Int) = L
  · simp -implicitDefEqProofs [c]
    rw [lcp_list (C := E k) [some (.sh, .int L), some (.sh, rowW row), none] [some (.sh, .int L), some (.sh, rowW row), none] row PV.int (fun x => some (.bl (0 == x || 1 == x))) (fun ρ => ∃ x, ρ = [some (.sh, .int L), some (.sh, rowW row), x])]
    · rw [fm_some]
      simp -implicitDefEqProofs [allBl_of]
    · rfl
    · simp -implicitDefEqProofs [rowW]
    · rintro x hx ρ ⟨y, rfl⟩
      simp -implicitDefEqProofs
    · exact ⟨_, rfl⟩
    · rintro ρ ⟨x, rfl⟩
      simp -implicitDefEqProofs
    · omega
  · simp -implicitDefEqProofs [c]
theorem rowsN_take (n i : Nat) {r : List Int} (h : (rowsN n)[i]? = some r) : ((rowsN n).take (i + 1)).flatMap (fun r => [r ++ [0], r ++ [1]]) = ((rowsN n).take i).flatMap (fun r => [r ++ [0], r ++ [1]]) ++ [r ++ [0], r ++ [1]] := by
  rw [take_at h, List.flatMap_append]
  simp -implicitDefEqProofs
end Cw.Ev
set_option Elab.async false
set_option linter.all false
set_option maxRecDepth 100000
set_option maxHeartbeats 4000000
set_option autoImplicit false
/-! k00, mathematics 5: all rows -/
namespace Cw.Ev
open PySem L2
/-- _law_rows -/
theorem lawrows_spec (k n : Nat) (hn : n ≤ 14) : ∃ fr, E (k + 1) 15 [some (.sh, .int n)] = .ok fr (.lst ((rowsN n).map rowW)) [none] := by
  have inner : ∀ (m : Nat) (st : Stt) (a b : Slot), (st = .own ∨ st = .sh) → m ≤ 13 → shN a → shN b → ∀ c : Slot, ∃ x, exSs (E k) [.asg (.name 3) (.lst []), .for_ (.name 4) .seq [(.var 1)] [.ex (.met .extend 3 [(.lst [(.bin .add (.var 4) (.tup [(.cst (.int 0))])), (.bin .add (.var 4) (.tup [(.cst (.int 1))]))])])], .asg (.name 1) (.var 3)] [some (.sh, .int n), some (st, .lst ((rowsN m).map rowW)), c, a, b] = .ok .nx [some (.sh, .int n), some (.sh, .lst ((rowsN (m + 1)).map rowW)), c, some (.sh, .lst ((rowsN (m + 1)).map rowW)), x] ∧ shN x := fun m st a b hst hm ha hb c => by
    obtain ⟨ρ', e, x, rfl, hx⟩ := for_run (C := E k) (tg := .name 4) (ik := .seq) (its := [(.var 1)]) (b := [.ex (.met .extend 3 [(.lst [(.bin .add (.var 4) (.tup [(.cst (.int 0))])), (.bin .add (.var 4) (.tup [(.cst (.int 1))]))])])]) (ρ := [some (.sh, .int n), some (st, .lst ((rowsN m).map rowW)), c, some (.own, .lst []), b])
      [some (.sh, .int n), some (.sh, .lst ((rowsN m).map rowW)), c, some (.own, .lst []), b] ((rowsN m).map rowW) (fun i ρ => ∃ x, ρ = [some (.sh, .int n), some (.sh, .lst ((rowsN m).map rowW)), c, some (.own, .lst ((((rowsN m).take i).flatMap fun r => [r ++ [0], r ++ [1]]).map rowW)), x] ∧ shN x) rfl (by rcases hst with rfl | rfl <;> simp -implicitDefEqProofs) (fun i x ρ hi hP => by
        obtain ⟨y, rfl, hy⟩ := hP
        obtain ⟨r, hr, rfl⟩ := map_at hi
        have l1 := rowsN_len m
        have l2 : 2 ^ m ≤ 2 ^ 13 := Nat.pow_le_pow_right (by omega) hm
        have lr := (rowsN_mem (List.mem_of_getElem? hr)).1
        have l3 : (((rowsN m).take i).flatMap fun r => [r ++ [0], r ++ [1]]).length + 2 ≤ 16777216 := by
          rw [flat2_len, List.length_take]
          omega
        have l4 : r.length + 1 ≤ 16777216 := by omega
        refine ⟨_, ?_, some (.sh, rowW r), rfl, .inr ⟨_, rfl⟩⟩
        rw [rowsN_take m i hr]
        simp -implicitDefEqProofs at l3
        simp -implicitDefEqProofs [setS_shN hy, rowW, l3, l4]) ⟨_, rfl, hb⟩
    refine ⟨x, ?_, hx⟩
    rw [show ((rowsN m).map rowW).length = (rowsN m).length from List.length_map _, List.take_of_length_le (Nat.le_refl _)] at e
    simp -implicitDefEqProofs [setS_shN ha, e, rowsN]
  obtain ⟨ρ', e, st, a, b, c, rfl, hst, ha, hb, hc⟩ := for_run (C := E k) (tg := .name 2) (ik := .range1) (its := [(.var 0)]) (b := [.asg (.name 3) (.lst []), .for_ (.name 4) .seq [(.var 1)] [.ex (.met .extend 3 [(.lst [(.bin .add (.var 4) (.tup [(.cst (.int 0))])), (.bin .add (.var 4) (.tup [(.cst (.int 1))]))])])], .asg (.name 1) (.var 3)]) (ρ := [some (.sh, .int n), some (.own, .lst [.tup []]), none, none, none])
    [some (.sh, .int n), some (.own, .lst [.tup []]), none, none, none] ((List.range n).map fun j : Nat => PV.int (j : Int)) (fun i ρ => ∃ st a b c, ρ = [some (.sh, .int n), some (st, .lst ((rowsN i).map rowW)), c, a, b] ∧ (st = .own ∨ st = .sh) ∧ shN a ∧ shN b ∧ shN c) rfl (by simp -implicitDefEqProofs [itV_range1n n (show n ≤ 1000000 by omega)]) (fun i x ρ hi hP => by
      obtain ⟨st, a, b, c, rfl, hst, ha, hb, hc⟩ := hP
      obtain ⟨j, hj, rfl⟩ := map_at hi
      have lt : i < n := by have := (List.getElem?_eq_some_iff.mp hj).1; simpa using this
      obtain ⟨x, e, hx⟩ := inner i st a b hst (by omega) ha hb (some (.sh, .int j))
      exact ⟨_, by simp only [bindT_name, List.getElem?_cons_succ, List.getElem?_cons_zero, setS_shN hc, R.bind_ok, kTn_eq, List.set_cons_succ, List.set_cons_zero, if_neg Bool.false_ne_true]; exact e, _, _, _, _, rfl, .inr rfl, .inr ⟨_, rfl⟩, hx, .inr ⟨_, rfl⟩⟩) ⟨_, _, _, _, rfl, .inl rfl, .inl rfl, .inl rfl, .inl rfl⟩
  rw [show ((List.range n).map fun j : Nat => PV.int (j : Int)).length = n by simp] at e
  refine ⟨st == .own, ?_⟩
  rw [E15]
  simp -implicitDefEqProofs [n_law_rows, b_law_rows]
  rw [e]
  rcases hst with rfl | rfl <;> simp -implicitDefEqProofs <;> rfl
/-- all_rows -/
theorem allrows_spec (k n : Nat) (hn : n ≤ 14) : E (k + 1) 1 [some (.sh, .int n)] = .ok true (.lst ((rowsN n).map rowW)) [none] := by
  obtain ⟨ρ', e, c, rfl, hc⟩ := for_run (C := E k) (tg := .name 2) (ik := .range1) (its := [(.var 0)]) (b := [.asg (.name 1) (.lcp2 [3, 4] [4] (.name 3) .seq [(.var 1)] (.name 4) .seq [(.tup [(.cst (.int 0)), (.cst (.int 1))])] [] (.tupS (.var 3) [(.var 4)]))]) (ρ := [some (.sh, .int n), some (.own, .lst [.tup []]), none, none, none])
    [some (.sh, .int n), some (.own, .lst [.tup []]), none, none, none] ((List.range n).map fun j : Nat => PV.int (j : Int)) (fun i ρ => ∃ c, ρ = [some (.sh, .int n), some (.own, .lst ((rowsN i).map rowW)), c, none, none] ∧ shN c) rfl (by simp -implicitDefEqProofs [itV_range1n n (show n ≤ 1000000 by omega)]) (fun i x ρ hi hP => by
      obtain ⟨c, rfl, hc⟩ := hP
      obtain ⟨j, hj, rfl⟩ := map_at hi
      have lt : i < n := by have := (List.getElem?_eq_some_iff.mp hj).1; simpa using this
      refine ⟨[some (.sh, .int n), some (.own, .lst ((rowsN (i + 1)).map rowW)), some (.sh, .int j), none, none], ?_, _, rfl, .inr ⟨_, rfl⟩⟩
      simp -implicitDefEqProofs [setS_shN hc]
      rw [lcp2_list (C := E k) [some (.sh, .int n), some (.sh, .lst ((rowsN i).map rowW)), some (.sh, .int j), none, none] [some (.sh, .int n), some (.sh, .lst ((rowsN i).map rowW)), some (.sh, .int j), none, none] (rowsN i) rowW (fun r => [rowW (r ++ [0]), rowW (r ++ [1])]) (fun ρ => ∃ a b, ρ = [some (.sh, .int n), some (.sh, .lst ((rowsN i).map rowW)), some (.sh, .int j), a, b])]
      · simp -implicitDefEqProofs [rowsN, List.map_flatMap]
      · rfl
      · simp -implicitDefEqProofs
      · rintro r hr ρ ⟨a, b, rfl⟩
        have lr := (rowsN_mem hr).1
        have l4 : r.length + 1 ≤ 16777216 := by omega
        refine ⟨[some (.sh, .int n), some (.sh, .lst ((rowsN i).map rowW)), some (.sh, .int j), some (.sh, rowW r), some (.sh, .int 1)], ?_, _, _, rfl⟩
        simp -implicitDefEqProofs [ouF, compLoop, rowW, l4]
      · exact ⟨_, _, rfl⟩
      · rintro ρ ⟨a, b, rfl⟩
        simp -implicitDefEqProofs
      · rw [flat2_len, rowsN_len]
        have l2 : 2 ^ i ≤ 2 ^ 14 := Nat.pow_le_pow_right (by omega) (by omega)
        omega) ⟨_, rfl, .inl rfl⟩
  rw [show ((List.range n).map fun j : Nat => PV.int (j : Int)).length = n by simp] at e
  rw [E1]
  simp -implicitDefEqProofs [n_all_rows, b_all_rows]
  rw [e]
  simp -implicitDefEqProofs
end Cw.Ev
set_option Elab.async false
set_option linter.all false
set_option maxRecDepth 100000
set_option maxHeartbeats 4000000
set_option autoImplicit false
/-! k00, mathematics 6: theories -/
namespace Cw.Ev
open PySem L2

abbrev thV (L : Int) (xs : List PV) : PV := .tup [.int L, .tup xs]
/-- a theory that is let -/
structure Th (L : Int) (ss : List Sy) : Prop where
  lo : 0 ≤ L
  hi : L ≤ 20
  few : ss.length ≤ 30
  ok : ∀ s ∈ ss, fine L s ∧ sz s ≤ 120 ∧ dp s ≤ 10
theorem Th.said {L : Int} {ss : List Sy} (h : Th L ss) (k : Nat) {s : Sy} (hs : s ∈ ss) : E (k + 2) 5 [some (.sh, .int L), some (.sh, enc s)] = .ok false .non [none, none] := by
  obtain ⟨h1, h2, h3⟩ := h.ok s hs
  rcases check_spec k L s h1 (by omega) with ⟨_, _, e⟩ | ⟨n, _⟩
  · exact e
  · exact absurd ⟨h2, h3⟩ n
abbrev ctFor : IS := .for_ (.name 1) .seq [(.var 3)] [.ex (.call 5 [(.var 2), (.var 1)])]
theorem theory_ok (k : Nat) (L : Int) (ss : List Sy) (h : Th L ss) : E (k + 3) 4 [some (.sh, thV L (encs ss))] = .ok false .non [none] := by
  obtain ⟨ρ', e, a, rfl, ha⟩ := for_run (C := E (k + 2)) (tg := .name 1) (ik := .seq) (its := [(.var 3)]) (b := [.ex (.call 5 [(.var 2), (.var 1)])]) (ρ := [some (.sh, thV L (encs ss)), none, some (.sh, .int L), some (.sh, .tup (encs ss))])
    [some (.sh, thV L (encs ss)), none, some (.sh, .int L), some (.sh, .tup (encs ss))] (ss.map enc) (fun i ρ => ∃ a, ρ = [some (.sh, thV L (encs ss)), a, some (.sh, .int L), some (.sh, .tup (encs ss))] ∧ shN a) rfl (by simp -implicitDefEqProofs [encs_map]) (fun i x ρ hi hP => by
      obtain ⟨a, rfl, ha⟩ := hP
      obtain ⟨s, hs, rfl⟩ := map_at hi
      refine ⟨[some (.sh, thV L (encs ss)), some (.sh, enc s), some (.sh, .int L), some (.sh, .tup (encs ss))], ?_, _, rfl, .inr ⟨_, rfl⟩⟩
      simp -implicitDefEqProofs [setS_shN ha, h.said k (List.mem_of_getElem? hs)]) ⟨_, rfl, .inl rfl⟩
  have h1 : ¬ (20 < L) := by have := h.hi; omega
  have h2 : ¬ (30 < (ss.length : Int)) := by have := h.few; omega
  have h3 : ¬ (L < 0) := by have := h.lo; omega
  show callF ⟨1, n_check_theory.length, b_check_theory⟩ (E (k + 2)) _ = _
  simp -implicitDefEqProofs [n_check_theory, b_check_theory, h1, h2, h3, encs_len]
  simp only [thV] at e
  rw [e]
  simp -implicitDefEqProofs
theorem theory_large (k : Nat) (L : Int) (xs : List PV) (h : 20 < L ∨ 30 < xs.length) : E (k + 3) 4 [some (.sh, thV L xs)] = .exc 1 .non := by
  show callF ⟨1, n_check_theory.length, b_check_theory⟩ (E (k + 2)) _ = _
  by_cases c : 20 < L
  · simp -implicitDefEqProofs [n_check_theory, b_check_theory, c]
  · have c2 : 30 < (xs.length : Int) := by omega
    simp -implicitDefEqProofs [n_check_theory, b_check_theory, c, c2]
theorem theory_neg (k : Nat) (L : Int) (xs : List PV) (h : L < 0) (h2 : xs.length ≤ 30) : E (k + 3) 4 [some (.sh, thV L xs)] = .exc 0 .non := by
  have h1 : ¬ (20 < L) := by omega
  have h2 : ¬ (30 < (xs.length : Int)) := by omega
  show callF ⟨1, n_check_theory.length, b_check_theory⟩ (E (k + 2)) _ = _
  simp -implicitDefEqProofs [n_check_theory, b_check_theory, h, h1, h2]
theorem theory_bad (k : Nat) (L : Int) (ss : List Sy) (y : PV) (c : Nat) (h : Th L ss) (hl : ss.length < 30) (hy : E (k + 2) 5 [some (.sh, .int L), some (.sh, y)] = .exc c .non) : E (k + 3) 4 [some (.sh, thV L (encs ss ++ [y]))] = .exc c .non := by
  have e : ∃ ρ', exS (E (k + 2)) ctFor [some (.sh, thV L (encs ss ++ [y])), none, some (.sh, .int L), some (.sh, .tup (encs ss ++ [y]))] = .exc c .non ρ' := by
    rw [exS_for (C := E (k + 2)) (ρ1 := [some (.sh, thV L (encs ss ++ [y])), none, some (.sh, .int L), some (.sh, .tup (encs ss ++ [y]))]) (xs := ss.map enc ++ [y]) rfl (by simp -implicitDefEqProofs [encs_map])]
    refine forLoop_gen (xs := ss.map enc ++ [y]) (P := fun i ρ => i ≤ ss.length ∧ ∃ a, ρ = [some (.sh, thV L (encs ss ++ [y])), a, some (.sh, .int L), some (.sh, .tup (encs ss ++ [y]))] ∧ shN a) (Q := fun r => ∃ ρ', r = .exc c .non ρ') _ 0 _ (Nat.zero_le _) rfl (fun i x ρ hi hP => ?_) (fun ρ hP => ?_) ⟨Nat.zero_le _, _, rfl, .inl rfl⟩
    · obtain ⟨li, a, rfl, ha⟩ := hP
      rw [turn_eq]
      by_cases lt : i < ss.length
      · left
        rw [List.getElem?_append_left (by simpa using lt)] at hi
        obtain ⟨s, hs, rfl⟩ := map_at hi
        refine ⟨[some (.sh, thV L (encs ss ++ [y])), some (.sh, enc s), some (.sh, .int L), some (.sh, .tup (encs ss ++ [y]))], ?_, by omega, _, rfl, .inr ⟨_, rfl⟩⟩
        simp -implicitDefEqProofs [setS_shN ha, h.said k (List.mem_of_getElem? hs)]
      · right; right; left
        have ei : i = ss.length := by omega
        subst ei
        rw [List.getElem?_append_right (by simp -implicitDefEqProofs)] at hi
        simp -implicitDefEqProofs at hi
        subst hi
        exact ⟨c, .non, [some (.sh, thV L (encs ss ++ [y])), some (.sh, y), some (.sh, .int L), some (.sh, .tup (encs ss ++ [y]))], by simp -implicitDefEqProofs [setS_shN ha, hy], _, rfl⟩
    · obtain ⟨li, _⟩ := hP
      simp -implicitDefEqProofs at li
      omega
  obtain ⟨ρ', e⟩ := e
  have h1 : ¬ (20 < L) := by have := h.hi; omega
  have h2 : ¬ (30 < (ss.length : Int) + 1) := by omega
  have h3 : ¬ (L < 0) := by have := h.lo; omega
  show callF ⟨1, n_check_theory.length, b_check_theory⟩ (E (k + 2)) _ = _
  simp -implicitDefEqProofs [n_check_theory, b_check_theory, h1, h2, h3, encs_len]
  simp only [thV] at e
  rw [e]
  simp -implicitDefEqProofs
/-- all functions raise what check_theory raises -/
theorem pass_exc (k : Nat) (t : PV) (c : Nat) (he : E (k + 3) 4 [some (.sh, t)] = .exc c .non) : E (k + 4) 8 [some (.sh, t)] = .exc c .non ∧ E (k + 4) 9 [some (.sh, t)] = .exc c .non ∧ E (k + 4) 10 [some (.sh, t)] = .exc c .non ∧ ∀ r, E (k + 4) 7 [some (.sh, t), some (.sh, r)] = .exc c .non := by
  refine ⟨?_, ?_, ?_, fun r => ?_⟩
  · show callF ⟨1, n_rows_that_hold.length, b_rows_that_hold⟩ (E (k + 3)) _ = _
    simp -implicitDefEqProofs [n_rows_that_hold, b_rows_that_hold, he]
  · show callF ⟨1, n_letters_used.length, b_letters_used⟩ (E (k + 3)) _ = _
    simp -implicitDefEqProofs [n_letters_used, b_letters_used, he]
  · show callF ⟨1, n_size_of.length, b_size_of⟩ (E (k + 3)) _ = _
    simp -implicitDefEqProofs [n_size_of, b_size_of, he]
  · show callF ⟨2, n_holds.length, b_holds⟩ (E (k + 3)) _ = _
    simp -implicitDefEqProofs [n_holds, b_holds, he]
theorem known12 (k : Nat) (row : List Int) (L : Int) (hL : (row.length : Int) = L) (s : Sy) (hd : dp s ≤ 10) (h : fine L s) : E (k + 12) 6 [some (.sh, enc s), some (.sh, rowW row)] = .ok false (.bl (val row s)) [none, none] := by
  have := known_spec row L hL 10 k s hd h
  rwa [show 10 + (k + 1) + 1 = k + 12 by omega] at this
theorem value12 (k : Nat) (row : List Int) (L : Int) (hL : (row.length : Int) = L) (s : Sy) (hd : dp s ≤ 10) (h : fine L s) : E (k + 12) 16 [some (.sh, enc s), some (.sh, rowW row)] = .ok false (.bl (val row s)) [none, none] := by
  have := value_spec row L hL 10 (k + 1) s hd h
  rwa [show 10 + (k + 1) + 1 = k + 12 by omega] at this
theorem walk12 (k : Nat) (L : Int) (s : Sy) (hd : dp s ≤ 10) (h : fine L s) (hs : sz s ≤ 100000) : E (k + 12) 21 [some (.sh, enc s)] = .ok true (.lst ((walk s).map enc)) [none] := by
  have := walk_spec L 10 k s hd h hs
  rwa [show 10 + (k + 1) + 1 = k + 12 by omega] at this
/-- holds -/
theorem holds_ok (k : Nat) (L : Int) (ss : List Sy) (row : List Int) (h : Th L ss) (hL : (row.length : Int) = L) (h01 : row.all (fun x => 0 == x || 1 == x) = true) : E (k + 13) 7 [some (.sh, thV L (encs ss)), some (.sh, rowW row)] = .ok false (.bl (ss.all (val row))) [none, none] := by
  have h4 : E (k + 12) 4 [some (.sh, thV L (encs ss))] = .ok false .non [none] := theory_ok (k + 9) L ss h
  have h0 : E (k + 12) 0 [some (.sh, .int L), some (.sh, rowW row)] = _ := isrow_spec (k + 11) L row (by have := h.hi; omega)
  rw [h01, hL] at h0
  show callF ⟨2, n_holds.length, b_holds⟩ (E (k + 12)) _ = _
  simp -implicitDefEqProofs at h0
  simp -implicitDefEqProofs [n_holds, b_holds, h4, h0]
  rw [lcp_list (C := E (k + 12)) [some (.sh, thV L (encs ss)), some (.sh, rowW row), none] [some (.sh, thV L (encs ss)), some (.sh, rowW row), none] ss enc (fun s => some (.bl (val row s))) (fun ρ => ∃ x, ρ = [some (.sh, thV L (encs ss)), some (.sh, rowW row), x])]
  · simp -implicitDefEqProofs [fm_some, allBl_of]
  · rfl
  · simp -implicitDefEqProofs [encs_map]
  · rintro s hs ρ ⟨x, rfl⟩
    obtain ⟨q1, q2, q3⟩ := h.ok s hs
    simp -implicitDefEqProofs [known12 k row L hL s q3 q1]
  · exact ⟨_, rfl⟩
  · rintro ρ ⟨x, rfl⟩
    simp -implicitDefEqProofs
  · have := h.few; omega
theorem holds_norow (k : Nat) (L : Int) (ss : List Sy) (row : List Int) (h : Th L ss) (hl : row.length ≤ 16777216) (hb : (((row.length : Int) == L) && row.all fun x => 0 == x || 1 == x) = false) : E (k + 13) 7 [some (.sh, thV L (encs ss)), some (.sh, rowW row)] = .exc 0 .non := by
  have h4 : E (k + 12) 4 [some (.sh, thV L (encs ss))] = .ok false .non [none] := theory_ok (k + 9) L ss h
  have h0 : E (k + 12) 0 [some (.sh, .int L), some (.sh, rowW row)] = _ := isrow_spec (k + 11) L row hl
  rw [hb] at h0
  show callF ⟨2, n_holds.length, b_holds⟩ (E (k + 12)) _ = _
  simp -implicitDefEqProofs [n_holds, b_holds, h4, h0]
/-- rows_that_hold -/
theorem rowsth_ok (k n : Nat) (ss : List Sy) (h : Th n ss) (hn : n ≤ 14) : E (k + 14) 8 [some (.sh, thV n (encs ss))] = .ok true (.lst (((rowsN n).filter fun r => ss.all (val r)).map rowW)) [none] := by
  have h4 : E (k + 13) 4 [some (.sh, thV n (encs ss))] = .ok false .non [none] := theory_ok (k + 10) n ss h
  have h1 : E (k + 13) 1 [some (.sh, .int n)] = .ok true (.lst ((rowsN n).map rowW)) [none] := allrows_spec (k + 12) n hn
  have c : ¬ (14 < (n : Int)) := by omega
  have l2 : 2 ^ n ≤ 2 ^ 14 := Nat.pow_le_pow_right (by omega) hn
  show callF ⟨1, n_rows_that_hold.length, b_rows_that_hold⟩ (E (k + 13)) _ = _
  simp -implicitDefEqProofs [n_rows_that_hold, b_rows_that_hold, h4, c]
  rw [lcp_list (C := E (k + 13)) [some (.sh, thV n (encs ss)), none, none] [some (.sh, thV n (encs ss)), none, none] (rowsN n) rowW (fun r => if ss.all (val r) = true then some (rowW r) else none) (fun ρ => ∃ x, ρ = [some (.sh, thV n (encs ss)), x, none])]
  · have e : ∀ l : List (List Int), l.filterMap (fun r => if ss.all (val r) = true then some (rowW r) else none) = (l.filter fun r => ss.all (val r)).map rowW := fun l => by
      induction l with
      | nil => rfl
      | cons r l ih =>
        rw [List.filterMap_cons, List.filter_cons, ih]
        cases ss.all (val r) <;> rfl
    rw [e]
    simp -implicitDefEqProofs
  · rfl
  · simp -implicitDefEqProofs [h1]
  · rintro r hr ρ ⟨x, rfl⟩
    obtain ⟨r1, r2⟩ := rowsN_mem hr
    refine ⟨[some (.sh, thV n (encs ss)), some (.sh, rowW r), none], ?_, _, rfl⟩
    simp -implicitDefEqProofs
    rw [lcp_list (C := E (k + 13)) [some (.sh, thV n (encs ss)), some (.sh, rowW r), none] [some (.sh, thV n (encs ss)), some (.sh, rowW r), none] ss enc (fun s => some (.bl (val r s))) (fun ρ => ∃ x, ρ = [some (.sh, thV n (encs ss)), some (.sh, rowW r), x])]
    · rw [fm_some]
      simp -implicitDefEqProofs [allBl_of]
      split <;> simp -implicitDefEqProofs
    · rfl
    · simp -implicitDefEqProofs [encs_map]
    · rintro s hs ρ ⟨x, rfl⟩
      obtain ⟨q1, q2, q3⟩ := h.ok s hs
      simp -implicitDefEqProofs [show E (k + 13) 6 [some (.sh, enc s), some (.sh, rowW r)] = _ from known12 (k + 1) r n (by rw [r1]) s q3 q1]
    · exact ⟨_, rfl⟩
    · rintro ρ ⟨x, rfl⟩
      simp -implicitDefEqProofs
    · have := h.few; omega
  · exact ⟨_, rfl⟩
  · rintro ρ ⟨x, rfl⟩
    simp -implicitDefEqProofs
  · rw [rowsN_len]; omega
theorem rowsth_large (k : Nat) (L : Int) (ss : List Sy) (h : Th L ss) (hn : 14 < L) : E (k + 14) 8 [some (.sh, thV L (encs ss))] = .exc 1 .non := by
  have h4 : E (k + 13) 4 [some (.sh, thV L (encs ss))] = .ok false .non [none] := theory_ok (k + 10) L ss h
  show callF ⟨1, n_rows_that_hold.length, b_rows_that_hold⟩ (E (k + 13)) _ = _
  simp -implicitDefEqProofs [n_rows_that_hold, b_rows_that_hold, h4, hn]
theorem szsL_rev : ∀ a : List Sy, szsL a.reverse = szsL a
  | [] => rfl
  | s :: r => by rw [List.reverse_cons, szsL_app, szsL_rev r]; simp -implicitDefEqProofs [szsL]; omega
/-- size_of -/
theorem size_ok (k : Nat) (L : Int) (ss : List Sy) (h : Th L ss) (hs : szsL ss ≤ 100000) : E (k + 4) 10 [some (.sh, thV L (encs ss))] = .ok false (.int (szsL ss)) [none] := by
  have h4 : E (k + 3) 4 [some (.sh, thV L (encs ss))] = .ok false .non [none] := theory_ok k L ss h
  have key := whl_gen (C := E (k + 3)) (c := (.cmp .gt (.blt .len (.var 2)) (.cst (.int 0)))) (b := [.aug 1 .add (.cst (.int 1)), .ex (.met .extend 2 [(.call 2 [(.met .pop 2 [])])])])
    (P := fun m ρ => ∃ (st : List Sy) (many : Nat), ρ = [some (.sh, thV L (encs ss)), some (.sh, .int many), some (.own, .lst ((st.map enc).reverse))] ∧ m = szsL st ∧ many + szsL st = szsL ss ∧ (∀ s ∈ st, fine L s))
    (Q := fun r => ∃ ρ, r = .ok .nx [some (.sh, thV L (encs ss)), some (.sh, .int (szsL ss)), ρ]) (by simp -implicitDefEqProofs) (fun m ρ hP => ?_) (szsL ss) [some (.sh, thV L (encs ss)), some (.sh, .int 0), some (.own, .lst (encs ss))] ?_
  · obtain ⟨ρ, e⟩ := key
    show callF ⟨1, n_size_of.length, b_size_of⟩ (E (k + 3)) _ = _
    simp -implicitDefEqProofs [n_size_of, b_size_of, h4]
    simp only [thV] at e
    rw [e]
    simp -implicitDefEqProofs
  · obtain ⟨st, many, rfl, rfl, hN, hf⟩ := hP
    cases st with
    | nil =>
      left
      simp -implicitDefEqProofs [szsL] at hN
      subst hN
      exact ⟨false, _, by simp -implicitDefEqProofs; rfl, _, rfl⟩
    | cons s st =>
      right; left
      obtain ⟨kd, ch⟩ := s
      have fs := hf _ List.mem_cons_self
      have hps : E (k + 3) 2 [some (.sh, enc (.mk kd ch))] = _ := parts_spec (k + 2) L (.mk kd ch) fs
      rw [fine] at fs
      have hl : st.length ≤ szsL st := by
        clear hN hf
        induction st with
        | nil => simp -implicitDefEqProofs
        | cons a r ih => have := sz_pos a; simp -implicitDefEqProofs [szsL]; omega
      simp only [szsL, sz] at hN
      have lo : st.length + ch.length ≤ 16777216 := by omega
      refine ⟨false, _, [some (.sh, thV L (encs ss)), some (.sh, .int ((many + 1 : Nat) : Int)), some (.own, .lst (((ch.reverse ++ st).map enc).reverse))], szsL (ch.reverse ++ st), by simp -implicitDefEqProofs; rfl, ?_, ?_, _, _, rfl, rfl, ?_, ?_⟩
      · simp -implicitDefEqProofs [pop_lst, hps, Sy.ch, encs_map, lo]
      · rw [szsL_app, szsL_rev]; simp only [szsL, sz]; omega
      · rw [szsL_app, szsL_rev]; omega
      · intro s hs
        rcases List.mem_append.mp hs with hs | hs
        · exact fines_mem fs.2.2 s (List.mem_reverse.mp hs)
        · exact hf s (List.mem_cons_of_mem _ hs)
  · exact ⟨ss.reverse, 0, by simp -implicitDefEqProofs [encs_map], (szsL_rev _).symm, by rw [szsL_rev]; omega, fun s hs => (h.ok s (List.mem_reverse.mp hs)).1⟩
/-! ### letters -/
def let1 : Sy → Option Int
  | .mk (.letter i) _ => some i
  | _ => none
/-- the letters in the walk's order -/
def lets (l : List Sy) : List Int := (walks l).filterMap let1
theorem lets_app (a b : List Sy) : lets (a ++ b) = lets a ++ lets b := by unfold lets; rw [walks_app, List.filterMap_append]
theorem lets_rev_mem (i : Int) : ∀ l : List Sy, i ∈ lets l.reverse ↔ i ∈ lets l
  | [] => Iff.rfl
  | s :: r => by
    rw [List.reverse_cons, lets_app, List.mem_append, lets_rev_mem i r, show lets (s :: r) = lets [s] ++ lets r from by rw [← lets_app]; rfl, List.mem_append]
    exact Or.comm
theorem lets_cons (kd : Kd) (ch st : List Sy) (i : Int) : i ∈ lets (.mk kd ch :: st) ↔ (let1 (.mk kd ch) = some i ∨ i ∈ lets ch) ∨ i ∈ lets st := by
  have e : lets (.mk kd ch :: st) = lets [.mk kd ch] ++ lets st := by rw [← lets_app]; rfl
  rw [e, List.mem_append]
  have e2 : i ∈ lets [.mk kd ch] ↔ let1 (.mk kd ch) = some i ∨ i ∈ lets ch := by
    unfold lets
    simp only [walks, walk, List.append_nil, List.mem_filterMap, List.mem_cons]
    constructor
    · rintro ⟨a, rfl | ha, q⟩
      · exact .inl q
      · exact .inr ⟨a, ha, q⟩
    · rintro (q | ⟨a, ha, q⟩)
      · exact ⟨_, .inl rfl, q⟩
      · exact ⟨a, .inr ha, q⟩
  rw [e2]
abbrev kvO (ks : List Int) : List (PV × PV) := ks.map fun i => (.int i, .bl true)
def addK (ks : List Int) (i : Int) : List Int := if i ∈ ks then ks else ks ++ [i]
theorem dPut_kv (ks : List Int) (i : Int) : dPut (kvO ks) (.int i) (.bl true) = kvO (addK ks i) := by
  unfold dPut addK
  by_cases c : i ∈ ks
  · rw [if_pos c, if_pos (List.any_eq_true.mpr ⟨(.int i, .bl true), List.mem_map.mpr ⟨i, c, rfl⟩, by simp -implicitDefEqProofs⟩)]
    rw [List.map_map]
    refine List.map_congr_left fun j _ => ?_
    simp -implicitDefEqProofs
  · rw [if_neg c, if_neg]
    · simp -implicitDefEqProofs
    · intro h
      obtain ⟨x, hx, q⟩ := List.any_eq_true.mp h
      obtain ⟨j, hj, rfl⟩ := List.mem_map.mp hx
      simp -implicitDefEqProofs at q
      exact c (q ▸ hj)
theorem addK_mem (ks : List Int) (i j : Int) : j ∈ addK ks i ↔ j ∈ ks ∨ j = i := by
  unfold addK
  split
  · rename_i h
    exact ⟨.inl, fun z => z.elim id fun e => e ▸ h⟩
  · simp -implicitDefEqProofs
theorem addK_nodup {ks : List Int} {i : Int} (h : ks.Nodup) : (addK ks i).Nodup := by
  unfold addK
  split
  · exact h
  · rename_i c
    rw [List.nodup_append]
    refine ⟨h, by simp -implicitDefEqProofs, fun a ha b hb => ?_⟩
    simp -implicitDefEqProofs at hb
    subst hb
    exact fun e => c (e ▸ ha)
theorem addK_len (ks : List Int) (i : Int) : (addK ks i).length ≤ ks.length + 1 := by unfold addK; split <;> simp -implicitDefEqProofs
theorem srtI_congr {l m : List Int} (p : l.Perm m) : srtI l = srtI m := srt_eq ((srtI_perm l).trans p) (srtI_sorted l)
@[simp] theorem setI_dct (kd : Nat) (kvs : List (PV × PV)) (k v : PV) : setI (.dct kd kvs) k v = if keyFit kd k = true ∧ kvs.length < 16777216 then some (.dct kd (dPut kvs k v)) else none := rfl
@[simp] theorem sorted_dct (kvs : List (PV × PV)) : bltV .sorted [.dct 0 kvs] = (allInt (kvs.map (·.1))).bind fun ns => if ns.length < 64 then some (true, .lst ((srtI ns).map .int)) else none := rfl
/-- letters_used -/
theorem letters_ok (k : Nat) (L : Int) (ss : List Sy) (h : Th L ss) (hs : szsL ss < 64) : E (k + 4) 9 [some (.sh, thV L (encs ss))] = .ok false (.tup ((srtI (dedupI (lets ss))).map .int)) [none] := by
  have h4 : E (k + 3) 4 [some (.sh, thV L (encs ss))] = .ok false .non [none] := theory_ok k L ss h
  have key := whl_gen (C := E (k + 3)) (c := (.cmp .gt (.blt .len (.var 2)) (.cst (.int 0)))) (b := [.asg (.name 3) (.met .pop 2 []), .ifs (.cmp .eq (.idx (.var 3) (.cst (.int 0))) (.cst (.str [108, 101, 116, 116, 101, 114]))) [.seti 1 (.idx (.var 3) (.cst (.int 1))) (.cst (.bl true))] [], .ex (.met .extend 2 [(.call 2 [(.var 3)])])])
    (P := fun m ρ => ∃ (st : List Sy) (ks : List Int) (a : Slot), ρ = [some (.sh, thV L (encs ss)), some (.own, .dct 0 (kvO ks)), some (.own, .lst ((st.map enc).reverse)), a] ∧ shN a ∧ m = szsL st ∧ ks.length + szsL st ≤ szsL ss ∧ (∀ s ∈ st, fine L s) ∧ ks.Nodup ∧ ∀ i, (i ∈ ks ∨ i ∈ lets st) ↔ i ∈ lets ss)
    (Q := fun r => ∃ x y ks, r = .ok .nx [some (.sh, thV L (encs ss)), some (.own, .dct 0 (kvO ks)), x, y] ∧ ks.length < 64 ∧ ks.Perm (dedupI (lets ss))) (by simp -implicitDefEqProofs) (fun m ρ hP => ?_) (szsL ss) [some (.sh, thV L (encs ss)), some (.own, .dct 0 []), some (.own, .lst (encs ss)), none] ?_
  · obtain ⟨x, y, ks, e, lt, pm⟩ := key
    have ek : (kvO ks).map (·.1) = ks.map PV.int := by simp -implicitDefEqProofs [Function.comp_def]
    show callF ⟨1, n_letters_used.length, b_letters_used⟩ (E (k + 3)) _ = _
    simp -implicitDefEqProofs [n_letters_used, b_letters_used, h4]
    simp only [thV] at e
    rw [e]
    simp -implicitDefEqProofs [ek, allInt_map, lt, srtI_congr pm]
  · obtain ⟨st, ks, a, rfl, ha, rfl, hN, hf, nd, hk⟩ := hP
    cases st with
    | nil =>
      left
      simp -implicitDefEqProofs [szsL] at hN
      refine ⟨false, _, by simp -implicitDefEqProofs; exact ⟨rfl, rfl⟩, _, _, ks, rfl, by omega, ?_⟩
      rw [List.perm_ext_iff_of_nodup nd (dedup_nodup _)]
      intro i
      rw [dedup_mem, ← hk i]
      simp -implicitDefEqProofs [lets, walks]
    | cons s st =>
      right; left
      obtain ⟨kd, ch⟩ := s
      have fs := hf _ List.mem_cons_self
      have hps : E (k + 3) 2 [some (.sh, enc (.mk kd ch))] = _ := parts_spec (k + 2) L (.mk kd ch) fs
      have fs0 := fs
      rw [fine] at fs
      have hl : st.length ≤ szsL st := by
        clear hN hf hk
        induction st with
        | nil => simp -implicitDefEqProofs
        | cons a r ih => have := sz_pos a; simp -implicitDefEqProofs [szsL]; omega
      simp only [szsL, sz] at hN
      have lo : st.length + ch.length ≤ 16777216 := by omega
      have hmem : ∀ s ∈ ch.reverse ++ st, fine L s := fun s hs => by
        rcases List.mem_append.mp hs with hs | hs
        · exact fines_mem fs.2.2 s (List.mem_reverse.mp hs)
        · exact hf s (List.mem_cons_of_mem _ hs)
      have hsz : szsL (ch.reverse ++ st) = szsL ch + szsL st := by rw [szsL_app, szsL_rev]
      have hlt : ∀ i, i ∈ lets (ch.reverse ++ st) ↔ i ∈ lets ch ∨ i ∈ lets st := fun i => by rw [lets_app, List.mem_append, lets_rev_mem]
      have kl : (kvO ks).length < 16777216 := by simp -implicitDefEqProofs; omega
      cases kd with
      | letter i =>
        refine ⟨false, _, [some (.sh, thV L (encs ss)), some (.own, .dct 0 (kvO (addK ks i))), some (.own, .lst (((ch.reverse ++ st).map enc).reverse)), some (.sh, enc (.mk (.letter i) ch))], szsL (ch.reverse ++ st), by simp -implicitDefEqProofs; rfl, ?_, ?_, _, addK ks i, _, rfl, .inr ⟨_, rfl⟩, rfl, ?_, hmem, addK_nodup nd, fun j => ?_⟩
        · simp only [enc, encK, Sy.ch, encs_map] at hps
          simp -implicitDefEqProofs at kl
          simp -implicitDefEqProofs [pop_lst, setS_shN ha, enc, encK, hps, Sy.ch, encs_map, lo, kl, dPut_kv]
        · rw [hsz]; simp only [szsL, sz]; omega
        · have := addK_len ks i
          rw [hsz]; omega
        · rw [← hk j, hlt, addK_mem, lets_cons]
          simp only [let1, Option.some.injEq]
          constructor
          · rintro ((q | q) | q | q)
            · exact .inl q
            · exact .inr (.inl (.inl q.symm))
            · exact .inr (.inl (.inr q))
            · exact .inr (.inr q)
          · rintro (q | (q | q) | q)
            · exact .inl (.inl q)
            · exact .inl (.inr q.symm)
            · exact .inr (.inl q)
            · exact .inr (.inr q)
      | yes =>
        refine ⟨false, _, [some (.sh, thV L (encs ss)), some (.own, .dct 0 (kvO ks)), some (.own, .lst (((ch.reverse ++ st).map enc).reverse)), some (.sh, enc (.mk (.yes) ch))], szsL (ch.reverse ++ st), by simp -implicitDefEqProofs; rfl, ?_, ?_, _, ks, _, rfl, .inr ⟨_, rfl⟩, rfl, ?_, hmem, nd, fun j => ?_⟩
        · simp only [enc, encK, Sy.ch, encs_map] at hps
          simp -implicitDefEqProofs [pop_lst, setS_shN ha, enc, encK, hps, Sy.ch, encs_map, lo]
        · rw [hsz]; simp -implicitDefEqProofs only [szsL, sz]; omega
        · rw [hsz]; omega
        · rw [← hk j, hlt, lets_cons]
          simp -implicitDefEqProofs [let1]
      | no =>
        refine ⟨false, _, [some (.sh, thV L (encs ss)), some (.own, .dct 0 (kvO ks)), some (.own, .lst (((ch.reverse ++ st).map enc).reverse)), some (.sh, enc (.mk (.no) ch))], szsL (ch.reverse ++ st), by simp -implicitDefEqProofs; rfl, ?_, ?_, _, ks, _, rfl, .inr ⟨_, rfl⟩, rfl, ?_, hmem, nd, fun j => ?_⟩
        · simp only [enc, encK, Sy.ch, encs_map] at hps
          simp -implicitDefEqProofs [pop_lst, setS_shN ha, enc, encK, hps, Sy.ch, encs_map, lo]
        · rw [hsz]; simp -implicitDefEqProofs only [szsL, sz]; omega
        · rw [hsz]; omega
        · rw [← hk j, hlt, lets_cons]
          simp -implicitDefEqProofs [let1]
      | not =>
        refine ⟨false, _, [some (.sh, thV L (encs ss)), some (.own, .dct 0 (kvO ks)), some (.own, .lst (((ch.reverse ++ st).map enc).reverse)), some (.sh, enc (.mk (.not) ch))], szsL (ch.reverse ++ st), by simp -implicitDefEqProofs; rfl, ?_, ?_, _, ks, _, rfl, .inr ⟨_, rfl⟩, rfl, ?_, hmem, nd, fun j => ?_⟩
        · simp only [enc, encK, Sy.ch, encs_map] at hps
          simp -implicitDefEqProofs [pop_lst, setS_shN ha, enc, encK, hps, Sy.ch, encs_map, lo]
        · rw [hsz]; simp -implicitDefEqProofs only [szsL, sz]; omega
        · rw [hsz]; omega
        · rw [← hk j, hlt, lets_cons]
          simp -implicitDefEqProofs [let1]
      | thn =>
        refine ⟨false, _, [some (.sh, thV L (encs ss)), some (.own, .dct 0 (kvO ks)), some (.own, .lst (((ch.reverse ++ st).map enc).reverse)), some (.sh, enc (.mk (.thn) ch))], szsL (ch.reverse ++ st), by simp -implicitDefEqProofs; rfl, ?_, ?_, _, ks, _, rfl, .inr ⟨_, rfl⟩, rfl, ?_, hmem, nd, fun j => ?_⟩
        · simp only [enc, encK, Sy.ch, encs_map] at hps
          simp -implicitDefEqProofs [pop_lst, setS_shN ha, enc, encK, hps, Sy.ch, encs_map, lo]
        · rw [hsz]; simp -implicitDefEqProofs only [szsL, sz]; omega
        · rw [hsz]; omega
        · rw [← hk j, hlt, lets_cons]
          simp -implicitDefEqProofs [let1]
      | same =>
        refine ⟨false, _, [some (.sh, thV L (encs ss)), some (.own, .dct 0 (kvO ks)), some (.own, .lst (((ch.reverse ++ st).map enc).reverse)), some (.sh, enc (.mk (.same) ch))], szsL (ch.reverse ++ st), by simp -implicitDefEqProofs; rfl, ?_, ?_, _, ks, _, rfl, .inr ⟨_, rfl⟩, rfl, ?_, hmem, nd, fun j => ?_⟩
        · simp only [enc, encK, Sy.ch, encs_map] at hps
          simp -implicitDefEqProofs [pop_lst, setS_shN ha, enc, encK, hps, Sy.ch, encs_map, lo]
        · rw [hsz]; simp -implicitDefEqProofs only [szsL, sz]; omega
        · rw [hsz]; omega
        · rw [← hk j, hlt, lets_cons]
          simp -implicitDefEqProofs [let1]
      | all =>
        refine ⟨false, _, [some (.sh, thV L (encs ss)), some (.own, .dct 0 (kvO ks)), some (.own, .lst (((ch.reverse ++ st).map enc).reverse)), some (.sh, enc (.mk (.all) ch))], szsL (ch.reverse ++ st), by simp -implicitDefEqProofs; rfl, ?_, ?_, _, ks, _, rfl, .inr ⟨_, rfl⟩, rfl, ?_, hmem, nd, fun j => ?_⟩
        · simp only [enc, encK, Sy.ch, encs_map] at hps
          simp -implicitDefEqProofs [pop_lst, setS_shN ha, enc, encK, hps, Sy.ch, encs_map, lo]
        · rw [hsz]; simp -implicitDefEqProofs only [szsL, sz]; omega
        · rw [hsz]; omega
        · rw [← hk j, hlt, lets_cons]
          simp -implicitDefEqProofs [let1]
      | any =>
        refine ⟨false, _, [some (.sh, thV L (encs ss)), some (.own, .dct 0 (kvO ks)), some (.own, .lst (((ch.reverse ++ st).map enc).reverse)), some (.sh, enc (.mk (.any) ch))], szsL (ch.reverse ++ st), by simp -implicitDefEqProofs; rfl, ?_, ?_, _, ks, _, rfl, .inr ⟨_, rfl⟩, rfl, ?_, hmem, nd, fun j => ?_⟩
        · simp only [enc, encK, Sy.ch, encs_map] at hps
          simp -implicitDefEqProofs [pop_lst, setS_shN ha, enc, encK, hps, Sy.ch, encs_map, lo]
        · rw [hsz]; simp -implicitDefEqProofs only [szsL, sz]; omega
        · rw [hsz]; omega
        · rw [← hk j, hlt, lets_cons]
          simp -implicitDefEqProofs [let1]
      | sum n ws =>
        refine ⟨false, _, [some (.sh, thV L (encs ss)), some (.own, .dct 0 (kvO ks)), some (.own, .lst (((ch.reverse ++ st).map enc).reverse)), some (.sh, enc (.mk (.sum n ws) ch))], szsL (ch.reverse ++ st), by simp -implicitDefEqProofs; rfl, ?_, ?_, _, ks, _, rfl, .inr ⟨_, rfl⟩, rfl, ?_, hmem, nd, fun j => ?_⟩
        · simp only [enc, encK, Sy.ch, encs_map] at hps
          simp -implicitDefEqProofs [pop_lst, setS_shN ha, enc, encK, hps, Sy.ch, encs_map, lo]
        · rw [hsz]; simp -implicitDefEqProofs only [szsL, sz]; omega
        · rw [hsz]; omega
        · rw [← hk j, hlt, lets_cons]
          simp -implicitDefEqProofs [let1]
      | least n =>
        refine ⟨false, _, [some (.sh, thV L (encs ss)), some (.own, .dct 0 (kvO ks)), some (.own, .lst (((ch.reverse ++ st).map enc).reverse)), some (.sh, enc (.mk (.least n) ch))], szsL (ch.reverse ++ st), by simp -implicitDefEqProofs; rfl, ?_, ?_, _, ks, _, rfl, .inr ⟨_, rfl⟩, rfl, ?_, hmem, nd, fun j => ?_⟩
        · simp only [enc, encK, Sy.ch, encs_map] at hps
          simp -implicitDefEqProofs [pop_lst, setS_shN ha, enc, encK, hps, Sy.ch, encs_map, lo]
        · rw [hsz]; simp -implicitDefEqProofs only [szsL, sz]; omega
        · rw [hsz]; omega
        · rw [← hk j, hlt, lets_cons]
          simp -implicitDefEqProofs [let1]
      | most n =>
        refine ⟨false, _, [some (.sh, thV L (encs ss)), some (.own, .dct 0 (kvO ks)), some (.own, .lst (((ch.reverse ++ st).map enc).reverse)), some (.sh, enc (.mk (.most n) ch))], szsL (ch.reverse ++ st), by simp -implicitDefEqProofs; rfl, ?_, ?_, _, ks, _, rfl, .inr ⟨_, rfl⟩, rfl, ?_, hmem, nd, fun j => ?_⟩
        · simp only [enc, encK, Sy.ch, encs_map] at hps
          simp -implicitDefEqProofs [pop_lst, setS_shN ha, enc, encK, hps, Sy.ch, encs_map, lo]
        · rw [hsz]; simp -implicitDefEqProofs only [szsL, sz]; omega
        · rw [hsz]; omega
        · rw [← hk j, hlt, lets_cons]
          simp -implicitDefEqProofs [let1]
      | just n =>
        refine ⟨false, _, [some (.sh, thV L (encs ss)), some (.own, .dct 0 (kvO ks)), some (.own, .lst (((ch.reverse ++ st).map enc).reverse)), some (.sh, enc (.mk (.just n) ch))], szsL (ch.reverse ++ st), by simp -implicitDefEqProofs; rfl, ?_, ?_, _, ks, _, rfl, .inr ⟨_, rfl⟩, rfl, ?_, hmem, nd, fun j => ?_⟩
        · simp only [enc, encK, Sy.ch, encs_map] at hps
          simp -implicitDefEqProofs [pop_lst, setS_shN ha, enc, encK, hps, Sy.ch, encs_map, lo]
        · rw [hsz]; simp -implicitDefEqProofs only [szsL, sz]; omega
        · rw [hsz]; omega
        · rw [← hk j, hlt, lets_cons]
          simp -implicitDefEqProofs [let1]
  · exact ⟨ss.reverse, [], none, by simp -implicitDefEqProofs [encs_map], .inl rfl, (szsL_rev _).symm, by rw [szsL_rev]; simp -implicitDefEqProofs, fun s hs => (h.ok s (List.mem_reverse.mp hs)).1, List.nodup_nil, fun i => by rw [lets_rev_mem]; simp -implicitDefEqProofs⟩
end Cw.Ev
set_option Elab.async false
set_option linter.all false
set_option maxRecDepth 100000
set_option maxHeartbeats 4000000
set_option autoImplicit false
/-! Cw, part Ew: repr and == of plain data; try -/
namespace Cw.Ev
open PySem L2

/-! ### try -/
def tryK (i : Nat) (r : R Fl) : R Fl := match r with
  | .exc c _ ρ1 => if c < 5 ∧ i < ρ1.length then .ok (.ret false (errStr c)) ρ1 else .bad
  | r => r
@[simp] theorem tryK_ok (i : Nat) (f : Fl) (ρ : Rho) : tryK i (.ok f ρ) = .ok f ρ := rfl
@[simp] theorem tryK_exc (i c : Nat) (x : PV) (ρ : Rho) : tryK i (.exc c x ρ) = if c < 5 ∧ i < ρ.length then .ok (.ret false (errStr c)) ρ else .bad := rfl
@[simp] theorem exS_try (C : CallSem) (i : Nat) (b : List IS) (ρ : Rho) : exS C (.tryErr i b) ρ = tryK i (exSs C b ρ) := by
  have e : exS C (.tryErr i b) ρ = match exSs C b ρ with
    | .exc c _ ρ1 => if c < 5 ∧ i < ρ1.length then .ok (.ret false (errStr c)) ρ1 else .bad
    | r => r := rfl
  rw [e]
  rfl
/-! ### tame data -/
def tI (i : Int) : Bool := decide (-1100 ≤ i ∧ i ≤ 1100)
mutual
def tame : PV → Bool
  | .non => true
  | .bl _ => true
  | .int i => tI i
  | .str x => x.all fun c => decide (c < 0x110000)
  | .tup xs => tames xs
  | .lst xs => tames xs
  | .dct _ _ => false
  | .set _ => false
  | .scr _ => false
def tames : List PV → Bool
  | [] => true
  | x :: xs => tame x && tames xs
end
mutual
def mass : PV → Nat
  | .int _ => 64
  | .str x => x.length
  | .tup xs => masses xs
  | .lst xs => masses xs
  | _ => 0
def masses : List PV → Nat
  | [] => 0
  | x :: xs => mass x + 1 + masses xs
end
mutual
def dep : PV → Nat
  | .tup xs => deps xs + 1
  | .lst xs => deps xs + 1
  | _ => 0
def deps : List PV → Nat
  | [] => 0
  | x :: xs => max (dep x) (deps xs)
end
def intB (i : Int) : Bool := PyData.showable (.int i) && PyData.intsShort 13 (.int i) && decide (PyData.weight (.int i) ≤ 64)
theorem intB_all : (List.range 2201).all (fun n => intB ((n : Int) - 1100)) = true := by decide +kernel
theorem intB_of {i : Int} (h : tI i = true) : intB i = true := by
  unfold tI at h
  rw [decide_eq_true_eq] at h
  have := List.all_eq_true.mp intB_all (i + 1100).toNat (List.mem_range.mpr (by omega))
  rwa [show (((i + 1100).toNat : Nat) : Int) - 1100 = i by omega] at this
mutual
theorem tame_ok : ∀ d : PV, tame d = true → plain d = true ∧ (toPD d).canLay0 = true ∧ (toPD d).showable = true ∧ (toPD d).intsShort 13 = true ∧ (toPD d).weight ≤ mass d ∧ (toPD d).depth = dep d
  | .non, _ => ⟨rfl, rfl, rfl, rfl, Nat.le_refl _, rfl⟩
  | .bl b, _ => ⟨rfl, rfl, rfl, rfl, Nat.le_refl _, rfl⟩
  | .int i, h => by
    have q := intB_of (show tI i = true from h)
    unfold intB at q
    simp only [Bool.and_eq_true, decide_eq_true_eq] at q
    exact ⟨rfl, rfl, q.1.1, q.1.2, q.2, rfl⟩
  | .str x, h => by
    refine ⟨rfl, ?_, rfl, rfl, ?_, rfl⟩
    · show PyData.strOk ⟨x.toArray⟩ = true
      unfold PyData.strOk
      simpa [tame] using h
    · show x.toArray.size ≤ x.length
      simp -implicitDefEqProofs
  | .tup xs, h => by
    obtain ⟨h1, h2, h3, h4, h5, h6⟩ := tames_ok xs h
    exact ⟨h1, h2, h3, h4, h5, by show PyData.depthAll (toPDs xs) + 1 = deps xs + 1; rw [h6]⟩
  | .lst xs, h => by
    obtain ⟨h1, h2, h3, h4, h5, h6⟩ := tames_ok xs h
    exact ⟨h1, h2, h3, h4, h5, by show PyData.depthAll (toPDs xs) + 1 = deps xs + 1; rw [h6]⟩
  | .dct _ _, h => by cases h
  | .set _, h => by cases h
  | .scr _, h => by cases h
theorem tames_ok : ∀ ds : List PV, tames ds = true → plains ds = true ∧ PyData.canLayAll0 (toPDs ds) = true ∧ PyData.showableAll (toPDs ds) = true ∧ PyData.intsShortAll 13 (toPDs ds) = true ∧ PyData.weightAll (toPDs ds) ≤ masses ds ∧ PyData.depthAll (toPDs ds) = deps ds
  | [], _ => ⟨rfl, rfl, rfl, rfl, Nat.le_refl _, rfl⟩
  | d :: ds, h => by
    rw [tames, Bool.and_eq_true] at h
    obtain ⟨a1, a2, a3, a4, a5, a6⟩ := tame_ok d h.1
    obtain ⟨b1, b2, b3, b4, b5, b6⟩ := tames_ok ds h.2
    refine ⟨by rw [plains, a1, b1]; rfl, by rw [toPDs, PyData.canLayAll0, a2, b2]; rfl, by rw [toPDs, PyData.showableAll, a3, b3]; rfl, by rw [toPDs, PyData.intsShortAll, a4, b4]; rfl, by rw [toPDs, PyData.weightAll, masses]; omega, by rw [toPDs, PyData.depthAll, deps, a6, b6]⟩
end
/-- repr may be asked -/
theorem repr_ok {d : PV} (h : tame d = true) (hs : (seqOf d).isSome = true) (hd : dep d ≤ 64) (hm : mass d ≤ 1048576) : bltV .repr [d] = some (false, .str (strOf (toPD d).shown)) := by
  obtain ⟨h1, h2, h3, h4, h5, h6⟩ := tame_ok d h
  have lay : (toPD d).layable0 = true := by
    unfold PyData.layable0
    simp only [Bool.and_eq_true, decide_eq_true_eq]
    exact ⟨⟨h2, by rw [h6]; exact hd⟩, by have : (2 : Nat) ^ 20 = 1048576 := rfl; omega⟩
  have len := PyProof.Rows.shown_le13 lay h4
  have : bltV .repr [d] = if (seqOf d).isSome && plain d && (toPD d).showable && decide ((toPD d).depth ≤ 64) && decide ((toPD d).shown.length ≤ 16777216) then some (false, .str (strOf (toPD d).shown)) else none := by
    cases d <;> rfl
  rw [this, if_pos]
  simp only [Bool.and_eq_true, decide_eq_true_eq]
  exact ⟨⟨⟨⟨hs, h1⟩, h3⟩, by rw [h6]; exact hd⟩, by omega⟩
theorem eqOk_of {d : PV} (h : tame d = true) (hd : dep d ≤ 64) : eqOk d = true := by
  obtain ⟨h1, h2, h3, h4, h5, h6⟩ := tame_ok d h
  unfold eqOk SeqAt.shaped
  simp only [Bool.and_eq_true, decide_eq_true_eq]
  exact ⟨h1, h2, by rw [h6]; exact hd⟩
theorem eqV_refl {d : PV} (h : tame d = true) : eqV' d d = true := by
  obtain ⟨h1, h2, _⟩ := tame_ok d h
  exact PySem.SeqAt.eqv_refl _ h2
theorem eqV_row : ∀ a b : List Int, PyData.eqvAll (toPDs (a.map .int)) (toPDs (b.map .int)) = decide (a = b)
  | [], [] => rfl
  | [], _ :: _ => rfl
  | _ :: _, [] => rfl
  | x :: a, y :: b => by
    show (x == y && PyData.eqvAll (toPDs (a.map .int)) (toPDs (b.map .int))) = _
    rw [eqV_row a b]
    by_cases c : x = y
    · subst c; simp -implicitDefEqProofs
    · simp -implicitDefEqProofs [c]
theorem tames_mem {xs : List PV} (h : ∀ x ∈ xs, tame x = true) : tames xs = true := by
  induction xs with
  | nil => rfl
  | cons x xs ih => rw [tames, h x List.mem_cons_self, ih fun y hy => h y (List.mem_cons_of_mem _ hy)]; rfl
theorem deps_mem {n : Nat} {xs : List PV} (h : ∀ x ∈ xs, dep x ≤ n) : deps xs ≤ n := by
  induction xs with
  | nil => exact Nat.zero_le _
  | cons x xs ih => rw [deps]; exact Nat.max_le.mpr ⟨h x List.mem_cons_self, ih fun y hy => h y (List.mem_cons_of_mem _ hy)⟩
theorem masses_mem {n : Nat} {xs : List PV} (h : ∀ x ∈ xs, mass x ≤ n) : masses xs ≤ xs.length * (n + 1) := by
  induction xs with
  | nil => exact Nat.zero_le _
  | cons x xs ih =>
    have := ih fun y hy => h y (List.mem_cons_of_mem _ hy)
    have := h x List.mem_cons_self
    rw [masses, List.length_cons, Nat.add_mul]
    omega
/-! ### elements made one by one, counted -/
theorem compLoop_exn {f : PV → Rho → R (Option PV)} {P : Nat → List PV → Rho → Prop} {xs : List PV} : ∀ (ys : List PV) (i : Nat) (ρ : Rho) (acc : List PV), xs.drop i = ys → (∀ i x acc ρ, xs[i]? = some x → P i acc ρ → ∃ o ρ1, f x ρ = .ok o ρ1 ∧ P (i + 1) (acc ++ o.toList) ρ1) → P i acc ρ → ∃ ds ρ', compLoop f ys ρ = .ok ds ρ' ∧ P (i + ys.length) (acc ++ ds) ρ'
  | [], i, ρ, acc, _, _, h => ⟨[], ρ, rfl, by rwa [List.append_nil]⟩
  | x :: ys, i, ρ, acc, e, step, h => by
    have hx : xs[i]? = some x := by
      have := congrArg (fun l => l[0]?) e
      simpa using this
    have e' : xs.drop (i + 1) = ys := by
      have := congrArg List.tail e
      simpa using this
    obtain ⟨o, ρ1, e1, h1⟩ := step i x acc ρ hx h
    obtain ⟨ds, ρ2, e2, h2⟩ := compLoop_exn ys (i + 1) ρ1 (acc ++ o.toList) e' step h1
    refine ⟨o.toList ++ ds, ρ2, ?_, by rw [← List.append_assoc, List.length_cons, show i + (ys.length + 1) = i + 1 + ys.length by omega]; exact h2⟩
    simp only [compLoop, e1, R.bind_ok, e2]
    cases o <;> rfl
theorem lcp_exn {C : CallSem} {own : List Nat} {tg : Tg} {ik : Ik} {its conds : List IE} {elt : IE} {ρ : Rho} (ρ1 : Rho) (xs : List PV) (P : Nat → List PV → Rho → Prop) (hik : lendI ik its = none) (h1 : itR ik its (evL C its ρ) ρ = .ok xs ρ1)
    (hs : ∀ i x acc ρ, xs[i]? = some x → P i acc ρ → ∃ o ρ', elF C own tg conds elt x ρ = .ok o ρ' ∧ P (i + 1) (acc ++ o.toList) ρ') (h0 : P 0 [] ρ1) (hlen : ∀ ds ρ6, P xs.length ds ρ6 → ds.length ≤ 16777216) : ∃ ds ρ6, P xs.length ds ρ6 ∧ ev C false (.lcp own tg ik its conds elt) ρ = .ok (true, .lst ds) (unwipe ρ1 ρ6 own) := by
  obtain ⟨ds, ρ6, e, p⟩ := compLoop_exn xs 0 ρ1 [] rfl hs h0
  rw [Nat.zero_add] at p
  exact ⟨ds, ρ6, p, ev_lcp hik h1 e (hlen _ _ p)⟩
theorem whl_exc1 {C : CallSem} {c : IE} {b : List IS} {ρ ρ1 ρ2 : Rho} {f : Bool} {x : Nat} {d : PV} (h1 : ev C true c ρ = .ok (f, .bl true) ρ1) (h2 : exSs C b ρ1 = .exc x d ρ2) : exS C (.whl c b) ρ = .exc x d ρ2 :=
  whl_gen (P := fun _ ρ' => ρ' = ρ) (Q := fun r => r = .exc x d ρ2) (by simp -implicitDefEqProofs) (fun m ρ' h => by subst h; exact .inr (.inr ⟨_, _, _, _, _, h1, h2, rfl⟩)) 0 ρ rfl
theorem binV_mul_tup (xs : List PV) (k : Int) (h0 : 0 ≤ k ∧ k ≤ 1000) (h1 : xs.length ≤ 1000) (h2 : xs ≠ []) : binV .mul (.tup xs) (.int k) = some (false, .tup (List.replicate k.toNat xs).flatten) := by
  have c : -(2 ^ 63) ≤ k ∧ k ≤ 1000 ∧ xs.length ≤ 1000 ∧ xs ≠ [] := ⟨Int.le_trans (by decide) h0.1, h0.2, h1, h2⟩
  exact if_pos c
theorem binV_mul_lst (xs : List PV) (k : Int) (h0 : 0 ≤ k ∧ k ≤ 1000) (h1 : xs.length ≤ 1000) : binV .mul (.lst xs) (.int k) = some (true, .lst (List.replicate k.toNat xs).flatten) := by
  have c : -(2 ^ 63) ≤ k ∧ k < 2 ^ 63 ∧ xs.length * k.toNat ≤ 16777216 := by
    refine ⟨Int.le_trans (by decide) h0.1, Int.lt_of_le_of_lt h0.2 (by decide), ?_⟩
    have := Nat.mul_le_mul h1 (show k.toNat ≤ 1000 by omega)
    omega
  exact if_pos c
theorem pow1018 : binV .pow (.int 10) (.int 18) = some (false, .int 1000000000000000000) := by
  have c : (0 : Int) ≤ 18 ∧ (18 : Int) ≤ 1000000 ∧ (10 : Int).natAbs < 2 ^ 64 := by decide
  have e : binV .pow (.int 10) (.int 18) = if (0 : Int) ≤ 18 ∧ (18 : Int) ≤ 1000000 ∧ (10 : Int).natAbs < 2 ^ 64 then some (false, .int ((10 : Int) ^ (18 : Int).toNat)) else none := rfl
  rw [e, if_pos c]
  rfl
end Cw.Ev
set_option Elab.async false
set_option linter.all false
set_option maxRecDepth 100000
set_option maxHeartbeats 4000000
set_option autoImplicit false
/-! k00, mathematics 7: told, same; drawn sayings -/
namespace Cw.Ev
open PySem L2

abbrev sTold : List Nat := [116, 111, 108, 100]
theorem told_ok (k j f : Nat) (t d r : PV) (fr : Bool) (hj : ([4, 8, 9, 10] : List Nat)[j]? = some f) (h : E k f [some (.sh, t)] = .ok fr d [none]) : E (k + 1) 19 [some (.sh, .int j), some (.sh, t), some (.sh, r)] = .ok false (.tup [.str sTold, d]) [none, none, none] := by
  have lt : j < 4 := (List.getElem?_eq_some_iff.mp hj).1
  have lt' : (j : Int) < 4 := by omega
  have hix : ixAt ([4, 8, 9, 10] : List Nat) (j : Int) = some f := by rw [ixAt_at _ _ (by omega) (by simpa using lt'), Int.toNat_natCast]; exact hj
  show callF ⟨3, n_law_told.length, b_law_told⟩ (E k) _ = _
  simp -implicitDefEqProofs [n_law_told, b_law_told, lt', calsK_at _ _ _ _ _ _ hix, h]
theorem told_exc (k j f c : Nat) (t r : PV) (hc : c < 5) (hj : ([4, 8, 9, 10] : List Nat)[j]? = some f) (h : E k f [some (.sh, t)] = .exc c .non) : E (k + 1) 19 [some (.sh, .int j), some (.sh, t), some (.sh, r)] = .ok false (errStr c) [none, none, none] := by
  have lt : j < 4 := (List.getElem?_eq_some_iff.mp hj).1
  have lt' : (j : Int) < 4 := by omega
  have hix : ixAt ([4, 8, 9, 10] : List Nat) (j : Int) = some f := by rw [ixAt_at _ _ (by omega) (by simpa using lt'), Int.toNat_natCast]; exact hj
  show callF ⟨3, n_law_told.length, b_law_told⟩ (E k) _ = _
  simp -implicitDefEqProofs [n_law_told, b_law_told, lt', calsK_at _ _ _ _ _ _ hix, h, hc]
theorem told4_ok (k : Nat) (t d r : PV) (fr : Bool) (h : E k 7 [some (.sh, t), some (.sh, r)] = .ok fr d [none, none]) : E (k + 1) 19 [some (.sh, .int 4), some (.sh, t), some (.sh, r)] = .ok false (.tup [.str sTold, d]) [none, none, none] := by
  show callF ⟨3, n_law_told.length, b_law_told⟩ (E k) _ = _
  simp -implicitDefEqProofs [n_law_told, b_law_told, h]
theorem told4_exc (k c : Nat) (t r : PV) (hc : c < 5) (h : E k 7 [some (.sh, t), some (.sh, r)] = .exc c .non) : E (k + 1) 19 [some (.sh, .int 4), some (.sh, t), some (.sh, r)] = .ok false (errStr c) [none, none, none] := by
  show callF ⟨3, n_law_told.length, b_law_told⟩ (E k) _ = _
  simp -implicitDefEqProofs [n_law_told, b_law_told, h, hc]
theorem same_spec (k : Nat) (d : PV) (h : tame d = true) (hd : dep d ≤ 63) (hm : mass d ≤ 1048000) : E (k + 1) 17 [some (.sh, d), some (.sh, d)] = .ok false (.bl true) [none, none] := by
  have q := repr_ok (d := .lst [d]) (by simp -implicitDefEqProofs [tame, tames, h]) rfl (by simp -implicitDefEqProofs [dep, deps]; omega) (by simp -implicitDefEqProofs [mass, masses]; omega)
  show callF ⟨2, n_law_same.length, b_law_same⟩ (E k) _ = _
  simp -implicitDefEqProofs [n_law_same, b_law_same, q]
/-! ### sayings are tame -/
mutual
theorem enc_tame {L : Int} (hL : L ≤ 1000) : ∀ s : Sy, fine L s → tame (enc s) = true ∧ mass (enc s) + 67 ≤ 150 * sz s ∧ dep (enc s) ≤ 3 * dp s
  | .mk kd ch, h => by
    rw [fine] at h
    obtain ⟨h1, _, h3⟩ := h
    obtain ⟨t1, t2, t3⟩ := encs_tame hL ch h3
    rw [enc, sz, dp]
    have hz : ∀ ws : List Int, ws.length = ch.length → (∀ w ∈ ws, -1000 ≤ w ∧ w ≤ 1000) → tames (zipW ws (encs ch)) = true ∧ masses (zipW ws (encs ch)) ≤ 150 * szsL ch ∧ deps (zipW ws (encs ch)) ≤ 3 * dps ch + 1 := fun ws hw hb => zip_tame hL ws ch hw hb h3
    cases kd with
    | yes => simp -implicitDefEqProofs [encK, tame, tames, mass, masses, dep, deps]; omega
    | no => simp -implicitDefEqProofs [encK, tame, tames, mass, masses, dep, deps]; omega
    | letter i =>
      obtain ⟨rfl, h4, h5⟩ := h1
      have : tI i = true := by unfold tI; rw [decide_eq_true_eq]; omega
      simp -implicitDefEqProofs [encK, tame, tames, mass, masses, dep, deps, this]; omega
    | not => simp -implicitDefEqProofs [encK, tame, tames, mass, masses, dep, deps, t1]; omega
    | thn => simp -implicitDefEqProofs [encK, tame, tames, mass, masses, dep, deps, t1]; omega
    | same => simp -implicitDefEqProofs [encK, tame, tames, mass, masses, dep, deps, t1]; omega
    | all => simp -implicitDefEqProofs [encK, tame, tames, mass, masses, dep, deps, t1]; omega
    | any => simp -implicitDefEqProofs [encK, tame, tames, mass, masses, dep, deps, t1]; omega
    | sum n ws =>
      obtain ⟨h4, h5, h6⟩ := h1
      obtain ⟨z1, z2, z3⟩ := hz ws h4 h6
      have : tI n = true := by unfold tI; rw [decide_eq_true_eq]; omega
      simp -implicitDefEqProofs [encK, tame, tames, mass, masses, dep, deps, z1, this]; omega
    | least n =>
      simp only [kOk] at h1
      have : tI n = true := by unfold tI; rw [decide_eq_true_eq]; omega
      simp -implicitDefEqProofs [encK, tame, tames, mass, masses, dep, deps, t1, this]; omega
    | most n =>
      simp only [kOk] at h1
      have : tI n = true := by unfold tI; rw [decide_eq_true_eq]; omega
      simp -implicitDefEqProofs [encK, tame, tames, mass, masses, dep, deps, t1, this]; omega
    | just n =>
      simp only [kOk] at h1
      have : tI n = true := by unfold tI; rw [decide_eq_true_eq]; omega
      simp -implicitDefEqProofs [encK, tame, tames, mass, masses, dep, deps, t1, this]; omega
theorem encs_tame {L : Int} (hL : L ≤ 1000) : ∀ l : List Sy, fines L l → tames (encs l) = true ∧ masses (encs l) ≤ 150 * szsL l ∧ deps (encs l) ≤ 3 * dps l
  | [], _ => ⟨rfl, Nat.zero_le _, Nat.zero_le _⟩
  | s :: r, h => by
    obtain ⟨a1, a2, a3⟩ := enc_tame hL s h.1
    obtain ⟨b1, b2, b3⟩ := encs_tame hL r h.2
    simp only [encs, tames, masses, deps, szsL, dps, a1, b1]
    refine ⟨rfl, by omega, by omega⟩
theorem zip_tame {L : Int} (hL : L ≤ 1000) : ∀ (ws : List Int) (ch : List Sy), ws.length = ch.length → (∀ w ∈ ws, -1000 ≤ w ∧ w ≤ 1000) → fines L ch → tames (zipW ws (encs ch)) = true ∧ masses (zipW ws (encs ch)) ≤ 150 * szsL ch ∧ deps (zipW ws (encs ch)) ≤ 3 * dps ch + 1
  | [], [], _, _, _ => ⟨rfl, Nat.zero_le _, Nat.zero_le _⟩
  | w :: ws, c :: ch, h, hw, hf => by
    simp only [List.length_cons, Nat.add_right_cancel_iff] at h
    obtain ⟨a1, a2, a3⟩ := enc_tame hL c hf.1
    obtain ⟨b1, b2, b3⟩ := zip_tame hL ws ch h (fun w hw' => hw w (List.mem_cons_of_mem _ hw')) hf.2
    have hb := hw w List.mem_cons_self
    have : tI w = true := by unfold tI; rw [decide_eq_true_eq]; omega
    simp only [encs, zipW, tames, tame, masses, mass, deps, dep, szsL, dps, a1, b1, this]
    refine ⟨rfl, by omega, by omega⟩
  | [], _ :: _, h, _, _ => by simp -implicitDefEqProofs at h
  | _ :: _, [], h, _, _ => by simp -implicitDefEqProofs at h
end
end Cw.Ev
set_option Elab.async false
set_option linter.all false
set_option maxRecDepth 100000
set_option maxHeartbeats 4000000
set_option autoImplicit false
/-! k00, mathematics 8: what is drawn -/
namespace Cw.Ev
open PySem L2

abbrev stV (nums : List Int) (c : Int) : PV := .lst [.lst (nums.map .int), .int c]
/-- the stream may be drawn from -/
structure Nums (nums : List Int) : Prop where
  ne : nums ≠ []
  few : nums.length < 1073741824
theorem next_at {nums : List Int} (N : Nums nums) (k : Nat) (c many : Int) (hc : 0 ≤ c ∧ c < 2 ^ 60) (hm : 0 < many) : ∃ r, 0 ≤ r ∧ r < many ∧ E (k + 1) 12 [some (.par, stV nums c), some (.sh, .int many)] = .ok false (.int r) [some (.par, stV nums (c + 1)), none] := next_spec k nums c many N.ne N.few hc hm
def Bd : Nat → Int
  | 0 => 4
  | d + 1 => 10 + 3 * Bd d
def Zd : Nat → Nat
  | 0 => 1
  | d + 1 => 1 + 3 * Zd d
theorem Bd_pos : ∀ d, 4 ≤ Bd d
  | 0 => by simp -implicitDefEqProofs [Bd]
  | d + 1 => by have := Bd_pos d; simp -implicitDefEqProofs [Bd]; omega
theorem Zd_pos : ∀ d, 1 ≤ Zd d
  | 0 => by simp -implicitDefEqProofs [Zd]
  | d + 1 => by simp -implicitDefEqProofs [Zd]
theorem gen_start (C : CallSem) (S S1 : PV) (L r d : Int) (e : C 12 [some (.par, S), some (.sh, .int 14)] = .ok false (.int r) [some (.par, S1), none]) (hd : d ≠ 0) (hr : ¬ r < 5) :
    exSs C b_law_saying [some (.par, S), some (.sh, .int L), some (.sh, .int d), none, none, none, none] = exSs C (b_law_saying.drop 3) [some (.par, S1), some (.sh, .int L), some (.sh, .int d), some (.sh, .int r), none, none, none] := by
  by_cases zL : L = 0 <;> simp -implicitDefEqProofs [b_law_saying, e, hd, hr, zL]
abbrev ptE : IE := .blt .tuple (.lcp [5] (.name 5) .range1 [(.call 12 [(.var 0), (.cst (.int 4))])] [] (.call 13 [(.var 0), (.var 1), (.bin .sub (.var 2) (.cst (.int 1)))]))
/-- the parts -/
theorem gen_parts {nums : List Int} (N : Nums nums) (L : Int) (d k K : Nat) (B : Int) (Z D : Nat) (hB : 0 ≤ B)
    (ih : ∀ c : Int, 0 ≤ c ∧ c + B < 2 ^ 59 → ∃ (s : Sy) (c' : Int), c ≤ c' ∧ c' ≤ c + B ∧ fine L s ∧ dp s ≤ D ∧ sz s ≤ Z ∧ E (K + 1) 13 [some (.par, stV nums c), some (.sh, .int L), some (.sh, .int d)] = .ok false (enc s) [some (.par, stV nums c'), none, none])
    (r c : Int) (hc : 0 ≤ c ∧ c + 1 + 3 * B < 2 ^ 59) : ∃ (ch : List Sy) (c' : Int), c ≤ c' ∧ c' ≤ c + 1 + 3 * B ∧ ch.length ≤ 3 ∧ fines L ch ∧ dps ch ≤ D ∧ szsL ch ≤ ch.length * Z ∧
      ev (E (K + 1)) false ptE [some (.par, stV nums c), some (.sh, .int L), some (.sh, .int ((d + 1 : Nat) : Int)), some (.sh, .int r), none, none, none] = .ok (false, .tup (encs ch)) [some (.par, stV nums c'), some (.sh, .int L), some (.sh, .int ((d + 1 : Nat) : Int)), some (.sh, .int r), none, none, none] := by
  obtain ⟨q, q0, q1, e⟩ := next_at N K c 4 (by omega) (by omega)
  obtain ⟨ds, ρ6, ⟨ch, c', x, rfl, rfl, p1, p2, p3, p4, p5, p6⟩, e2⟩ := lcp_exn (C := E (K + 1)) (own := [5]) (tg := .name 5) (ik := .range1) (its := [(.call 12 [(.var 0), (.cst (.int 4))])]) (conds := []) (elt := (.call 13 [(.var 0), (.var 1), (.bin .sub (.var 2) (.cst (.int 1)))])) (ρ := [some (.par, stV nums c), some (.sh, .int L), some (.sh, .int ((d + 1 : Nat) : Int)), some (.sh, .int r), none, none, none])
    [some (.par, stV nums (c + 1)), some (.sh, .int L), some (.sh, .int ((d + 1 : Nat) : Int)), some (.sh, .int r), none, none, none] ((List.range q.toNat).map fun j : Nat => PV.int (j : Int))
    (fun i acc ρ => ∃ (ch : List Sy) (c' : Int) (x : Slot), acc = encs ch ∧ ρ = [some (.par, stV nums c'), some (.sh, .int L), some (.sh, .int ((d + 1 : Nat) : Int)), some (.sh, .int r), none, x, none] ∧ ch.length = i ∧ c ≤ c' ∧ c' ≤ c + 1 + i * B ∧ fines L ch ∧ dps ch ≤ D ∧ szsL ch ≤ ch.length * Z) rfl (by
      simp -implicitDefEqProofs [e, itV_range1 q (by omega)]) (fun i x acc ρ hi hP => by
      obtain ⟨ch, c', x, rfl, rfl, p1, p2, p3, p4, p5, p6⟩ := hP
      obtain ⟨j, hj, rfl⟩ := map_at hi
      have lt : i < q.toNat := by have := (List.getElem?_eq_some_iff.mp hj).1; simpa using this
      have iB : (i : Int) * B ≤ 2 * B := Int.mul_le_mul_of_nonneg_right (by omega) hB
      obtain ⟨s, c2, t1, t2, t3, t4, t5, t6⟩ := ih c' ⟨by omega, by omega⟩
      refine ⟨some (enc s), [some (.par, stV nums c2), some (.sh, .int L), some (.sh, .int ((d + 1 : Nat) : Int)), some (.sh, .int r), none, some (.sh, .int j), none], ?_, ch ++ [s], c2, _, by simp -implicitDefEqProofs [encs_map], rfl, by simp -implicitDefEqProofs [p1], by omega, ?_, ?_, ?_, ?_⟩
      · simp -implicitDefEqProofs [t6]
      · have : ((i + 1 : Nat) : Int) * B = i * B + B := by rw [Int.natCast_add, Int.add_mul]; simp -implicitDefEqProofs
        omega
      · clear p1 p5 p6
        induction ch with
        | nil => exact ⟨t3, trivial⟩
        | cons a l ihl => exact ⟨p4.1, ihl p4.2⟩
      · exact (dps_le D _).mpr fun c hc => by
          rcases List.mem_append.mp hc with hc | hc
          · exact (dps_le D _).mp p5 c hc
          · simp -implicitDefEqProofs at hc; subst hc; exact t4
      · rw [szsL_app, List.length_append, Nat.add_mul]
        simp -implicitDefEqProofs [szsL]
        omega) ⟨[], c + 1, none, rfl, rfl, rfl, by omega, by simp -implicitDefEqProofs, trivial, Nat.zero_le _, Nat.zero_le _⟩ (fun ds ρ6 ⟨ch, _, _, h, _, h2, _⟩ => by
        rw [h, encs_len, h2]; simp -implicitDefEqProofs; omega)
  simp only [List.length_map, List.length_range] at p1 p3
  have q3 : q ≤ 3 := by omega
  have qB : ((q.toNat : Nat) : Int) * B ≤ 3 * B := Int.mul_le_mul_of_nonneg_right (by omega) hB
  refine ⟨ch, c', p2, ?_, by omega, p4, p5, p6, ?_⟩
  · omega
  · simp -implicitDefEqProofs [ptE]
    simp -implicitDefEqProofs at e2
    simp -implicitDefEqProofs [e2]
theorem leaf_yes (L : Int) : fine L (.mk .yes []) := by simp -implicitDefEqProofs [fine, fines, kOk]
theorem leaf_no (L : Int) : fine L (.mk .no []) := by simp -implicitDefEqProofs [fine, fines, kOk]
theorem leaf_let (L i : Int) (h : 1 ≤ i ∧ i ≤ L) : fine L (.mk (.letter i) []) := by simp -implicitDefEqProofs [fine, fines, kOk]; exact h
abbrev rst (nums : List Int) (c L : Int) (d : Nat) (r : Int) (p : Slot) : Rho := [some (.par, stV nums c), some (.sh, .int L), some (.sh, .int ((d : Nat) : Int)), some (.sh, .int r), p, none, none]
/-- the second half, parts drawn -/
theorem gen_tail {nums : List Int} (N : Nums nums) (L : Int) (d K : Nat) (r c : Int) (ch : List Sy) (hr : 9 ≤ r ∧ r < 14) (hc : 0 ≤ c ∧ c < 2 ^ 59) (h3 : ch.length ≤ 3) (hf : fines L ch) :
    ∃ (kd : Kd) (c' : Int), c ≤ c' ∧ c' ≤ c + 4 ∧ fine L (.mk kd ch) ∧ ∃ ρ, exSs (E (K + 1)) (b_law_saying.drop 7) (rst nums c L d r (some (.sh, .tup (encs ch)))) = .ok (.ret false (enc (.mk kd ch))) (some (.par, stV nums c') :: some (.sh, .int L) :: some (.sh, .int ((d : Nat) : Int)) :: ρ) := by
  have hl : ch.length < 1000 := by omega
  by_cases r9 : r = 9
  · subst r9
    exact ⟨.all, c, by omega, by omega, by rw [fine]; exact ⟨trivial, hl, hf⟩, _, by simp -implicitDefEqProofs [b_law_saying, enc, encK]; rfl⟩
  · by_cases r10 : r = 10
    · subst r10
      exact ⟨.any, c, by omega, by omega, by rw [fine]; exact ⟨trivial, hl, hf⟩, _, by simp -implicitDefEqProofs [b_law_saying, enc, encK]; rfl⟩
    · have n11 : ¬ r < 11 := by omega
      by_cases r11 : r = 11
      · subst r11
        obtain ⟨q, q0, q1, e⟩ := next_at N K c 9 (by omega) (by omega)
        obtain ⟨ds, ρ6, ⟨ws, c', x, rfl, rfl, p1, p2, p3, p4⟩, e2⟩ := lcp_exn (C := E (K + 1)) (own := [6]) (tg := .name 6) (ik := .seq) (its := [(.var 4)]) (conds := []) (elt := (.tup [(.bin .sub (.call 12 [(.var 0), (.cst (.int 9))]) (.cst (.int 3))), (.var 6)])) (ρ := rst nums (c + 1) L d 11 (some (.sh, .tup (encs ch))))
          (rst nums (c + 1) L d 11 (some (.sh, .tup (encs ch)))) (ch.map enc)
          (fun i acc ρ => ∃ (ws : List Int) (c' : Int) (x : Slot), acc = zipW ws (encs (ch.take i)) ∧ ρ = [some (.par, stV nums c'), some (.sh, .int L), some (.sh, .int ((d : Nat) : Int)), some (.sh, .int 11), some (.sh, .tup (encs ch)), none, x] ∧ ws.length = i ∧ c ≤ c' ∧ c' ≤ c + 1 + i ∧ ∀ w ∈ ws, -1000 ≤ w ∧ w ≤ 1000) rfl (by
            simp -implicitDefEqProofs [encs_map]) (fun i x acc ρ hi hP => by
            obtain ⟨ws, c', x, rfl, rfl, p1, p2, p3, p4⟩ := hP
            obtain ⟨s, hs, rfl⟩ := map_at hi
            have lt : i < ch.length := (List.getElem?_eq_some_iff.mp hs).1
            obtain ⟨w, w0, w1, ew⟩ := next_at N K c' 9 (by omega) (by omega)
            refine ⟨some (.tup [.int (w - 3), enc s]), [some (.par, stV nums (c' + 1)), some (.sh, .int L), some (.sh, .int ((d : Nat) : Int)), some (.sh, .int 11), some (.sh, .tup (encs ch)), none, some (.sh, enc s)], ?_, ws ++ [w - 3], c' + 1, _, ?_, rfl, by simp -implicitDefEqProofs [p1], by omega, by omega, ?_⟩
            · simp -implicitDefEqProofs [ew]
            · rw [take_at hs, zipW_two, zipW_two, List.zip_append (by rw [List.length_take]; omega)]
              simp -implicitDefEqProofs
            · intro v hv
              rcases List.mem_append.mp hv with hv | hv
              · exact p4 v hv
              · simp -implicitDefEqProofs at hv; omega) ⟨[], c + 1, none, rfl, rfl, rfl, by omega, by omega, fun _ z => by cases z⟩ (fun ds ρ6 ⟨ws, _, _, h, _, h2, _⟩ => by
              rw [h, zipW_two]; simp -implicitDefEqProofs; omega)
        simp only [List.length_map] at p1 p3
        rw [List.length_map, List.take_of_length_le (Nat.le_refl _)] at e2
        refine ⟨.sum (q - 3) ws, c', p2, by omega, by rw [fine]; exact ⟨⟨p1, by omega, p4⟩, hl, hf⟩, [some (.sh, .int 11), some (.sh, .tup (encs ch)), none, none], ?_⟩
        simp -implicitDefEqProofs [b_law_saying, e]
        simp -implicitDefEqProofs [rst] at e2
        simp -implicitDefEqProofs [e2, enc, encK]
      · obtain ⟨q, q0, q1, e⟩ := next_at N K c 3 (by omega) (by omega)
        obtain ⟨m, m0, m1, e2⟩ := next_at N K (c + 1) 4 (by omega) (by omega)
        have : q = 0 ∨ q = 1 ∨ q = 2 := by omega
        rcases this with rfl | rfl | rfl
        · exact ⟨.least m, c + 1 + 1, by omega, by omega, by rw [fine]; exact ⟨by simp only [kOk]; omega, hl, hf⟩, _, by simp -implicitDefEqProofs [b_law_saying, n11, r11, e, e2, enc, encK]; rfl⟩
        · exact ⟨.most m, c + 1 + 1, by omega, by omega, by rw [fine]; exact ⟨by simp only [kOk]; omega, hl, hf⟩, _, by simp -implicitDefEqProofs [b_law_saying, n11, r11, e, e2, enc, encK]; rfl⟩
        · exact ⟨.just m, c + 1 + 1, by omega, by omega, by rw [fine]; exact ⟨by simp only [kOk]; omega, hl, hf⟩, _, by simp -implicitDefEqProofs [b_law_saying, n11, r11, e, e2, enc, encK]; rfl⟩
theorem callE3 (a L d : PV) (s a' : PV) (ρ : Rho) : callE 3 [some (.par, a), some (.sh, L), some (.sh, d)] (.ok (.ret false s) (some (.par, a') :: some (.sh, L) :: some (.sh, d) :: ρ)) = .ok false s [some (.par, a'), none, none] := by simp -implicitDefEqProofs
theorem saying_spec {nums : List Int} (N : Nums nums) (L : Int) (h0 : 0 ≤ L) (h5 : L ≤ 20) : ∀ (d k : Nat) (c : Int), 0 ≤ c ∧ c + Bd d < 2 ^ 59 → ∃ (s : Sy) (c' : Int), c ≤ c' ∧ c' ≤ c + Bd d ∧ fine L s ∧ dp s ≤ d + 1 ∧ sz s ≤ Zd d ∧
    E (d + k + 2) 13 [some (.par, stV nums c), some (.sh, .int L), some (.sh, .int d)] = .ok false (enc s) [some (.par, stV nums c'), none, none] := by
  intro d k c hc
  have bp := Bd_pos d
  have zp := Zd_pos d
  obtain ⟨r, r0, r1, e⟩ := next_at N (d + k) c 14 (by omega) (by omega)
  have leaf : ∀ (s : Sy) (c' : Int), s.ch = [] → c ≤ c' → c' ≤ c + 4 → fine L s → E (d + k + 2) 13 [some (.par, stV nums c), some (.sh, .int L), some (.sh, .int d)] = .ok false (enc s) [some (.par, stV nums c'), none, none] → ∃ (s : Sy) (c' : Int), c ≤ c' ∧ c' ≤ c + Bd d ∧ fine L s ∧ dp s ≤ d + 1 ∧ sz s ≤ Zd d ∧ E (d + k + 2) 13 [some (.par, stV nums c), some (.sh, .int L), some (.sh, .int d)] = .ok false (enc s) [some (.par, stV nums c'), none, none] := by
    rintro ⟨kd, ch⟩ c' hch a1 a2 a3 a4
    simp only [Sy.ch] at hch
    subst hch
    exact ⟨_, c', a1, by omega, a3, by simp -implicitDefEqProofs [dp, dps], by simp -implicitDefEqProofs [sz, szsL]; omega, a4⟩
  by_cases c1 : d = 0 ∨ r < 5
  · by_cases zL : L = 0
    · subst zL
      obtain ⟨r2, q0, q1, e2⟩ := next_at N (d + k) (c + 1) 2 (by omega) (by omega)
      have h2 : r2 = 0 ∨ r2 = 1 := by omega
      rcases h2 with rfl | rfl
      · refine leaf (.mk .yes []) (c + 1 + 1) rfl (by omega) (by omega) (leaf_yes _) ?_
        show callF ⟨3, n_law_saying.length, b_law_saying⟩ (E (d + k + 1)) _ = _
        by_cases c2 : d = 0
        · subst c2; simp -implicitDefEqProofs at e e2; simp -implicitDefEqProofs [n_law_saying, b_law_saying, e, e2, enc, encK]
        · have c3 : r < 5 := by omega
          simp -implicitDefEqProofs [n_law_saying, b_law_saying, e, e2, c2, c3, enc, encK]
      · refine leaf (.mk .no []) (c + 1 + 1) rfl (by omega) (by omega) (leaf_no _) ?_
        show callF ⟨3, n_law_saying.length, b_law_saying⟩ (E (d + k + 1)) _ = _
        by_cases c2 : d = 0
        · subst c2; simp -implicitDefEqProofs at e e2; simp -implicitDefEqProofs [n_law_saying, b_law_saying, e, e2, enc, encK]
        · have c3 : r < 5 := by omega
          simp -implicitDefEqProofs [n_law_saying, b_law_saying, e, e2, c2, c3, enc, encK]
    · obtain ⟨r2, q0, q1, e2⟩ := next_at N (d + k) (c + 1) L (by omega) (by omega)
      refine leaf (.mk (.letter (1 + r2)) []) (c + 1 + 1) rfl (by omega) (by omega) (leaf_let _ _ (by omega)) ?_
      show callF ⟨3, n_law_saying.length, b_law_saying⟩ (E (d + k + 1)) _ = _
      by_cases c2 : d = 0
      · subst c2; simp -implicitDefEqProofs at e e2; simp -implicitDefEqProofs [n_law_saying, b_law_saying, e, e2, zL, enc, encK]
      · have c3 : r < 5 := by omega
        simp -implicitDefEqProofs [n_law_saying, b_law_saying, e, e2, zL, c2, c3, enc, encK]
  · obtain ⟨d, rfl⟩ : ∃ d', d = d' + 1 := ⟨d - 1, by omega⟩
    have r5 : ¬ r < 5 := by omega
    have ih : ∀ c : Int, 0 ≤ c ∧ c + Bd d < 2 ^ 59 → ∃ (s : Sy) (c' : Int), c ≤ c' ∧ c' ≤ c + Bd d ∧ fine L s ∧ dp s ≤ d + 1 ∧ sz s ≤ Zd d ∧ E (d + 1 + k + 1) 13 [some (.par, stV nums c), some (.sh, .int L), some (.sh, .int d)] = .ok false (enc s) [some (.par, stV nums c'), none, none] := fun c hc => by
      have := saying_spec N L h0 h5 d k c hc
      rwa [show d + k + 2 = d + 1 + k + 1 by omega] at this
    have st := gen_start (E (d + 1 + k + 1)) (stV nums c) (stV nums (c + 1)) L r ((d + 1 : Nat) : Int) e (by omega) r5
    have bd : Bd (d + 1) = 10 + 3 * Bd d := rfl
    have zd : Zd (d + 1) = 1 + 3 * Zd d := rfl
    have bp' := Bd_pos d
    have start : E (d + 1 + k + 2) 13 [some (.par, stV nums c), some (.sh, .int L), some (.sh, .int ((d + 1 : Nat) : Int))] = callE 3 [some (.par, stV nums c), some (.sh, .int L), some (.sh, .int ((d + 1 : Nat) : Int))] (exSs (E (d + 1 + k + 1)) (b_law_saying.drop 3) (rst nums (c + 1) L (d + 1) r none)) := by
      rw [← st]
      show callF ⟨3, n_law_saying.length, b_law_saying⟩ (E (d + 1 + k + 1)) _ = _
      simp only [callF_eq]
      rw [if_pos (by simp -implicitDefEqProofs)]
      rfl
    rw [start] at leaf ⊢
    by_cases e5 : r = 5
    · subst e5
      by_cases zL : L = 0
      · subst zL
        obtain ⟨m, m0, m1, e1⟩ := next_at N (d + 1 + k) (c + 1) 3 (by omega) (by omega)
        obtain ⟨q, q0, q1, e2⟩ := next_at N (d + 1 + k) (c + 1 + 1) 2 (by omega) (by omega)
        have h2 : q = 0 ∨ q = 1 := by omega
        rcases h2 with rfl | rfl
        · exact leaf (.mk .yes []) (c + 1 + 1 + 1) rfl (by omega) (by omega) (leaf_yes _) (by simp -implicitDefEqProofs [b_law_saying, e1, e2, enc, encK])
        · exact leaf (.mk .no []) (c + 1 + 1 + 1) rfl (by omega) (by omega) (leaf_no _) (by simp -implicitDefEqProofs [b_law_saying, e1, e2, enc, encK])
      · obtain ⟨m, m0, m1, e1⟩ := next_at N (d + 1 + k) (c + 1) 3 (by omega) (by omega)
        obtain ⟨q, q0, q1, e2⟩ := next_at N (d + 1 + k) (c + 1 + 1) 2 (by omega) (by omega)
        have h2 : m = 0 ∨ m = 1 ∨ m = 2 := by omega
        rcases h2 with rfl | rfl | rfl
        · exact leaf (.mk .yes []) (c + 1 + 1 + 1) rfl (by omega) (by omega) (leaf_yes _) (by simp -implicitDefEqProofs [b_law_saying, e1, e2, zL, enc, encK])
        · exact leaf (.mk .no []) (c + 1 + 1 + 1) rfl (by omega) (by omega) (leaf_no _) (by simp -implicitDefEqProofs [b_law_saying, e1, e2, zL, enc, encK])
        · refine leaf (.mk (.letter (if L > 1 then L else 1)) []) (c + 1 + 1 + 1) rfl (by omega) (by omega) (leaf_let _ _ (by split <;> omega)) ?_
          simp -implicitDefEqProofs [b_law_saying, e1, e2, zL, enc, encK]
    · have node : ∀ (kd : Kd) (ch : List Sy) (c' : Int), c ≤ c' → c' ≤ c + Bd (d + 1) → fine L (.mk kd ch) → dps ch ≤ d + 1 → szsL ch ≤ 3 * Zd d → callE 3 [some (.par, stV nums c), some (.sh, .int L), some (.sh, .int ((d + 1 : Nat) : Int))] (exSs (E (d + 1 + k + 1)) (b_law_saying.drop 3) (rst nums (c + 1) L (d + 1) r none)) = .ok false (enc (.mk kd ch)) [some (.par, stV nums c'), none, none] → ∃ (s : Sy) (c' : Int), c ≤ c' ∧ c' ≤ c + Bd (d + 1) ∧ fine L s ∧ dp s ≤ d + 1 + 1 ∧ sz s ≤ Zd (d + 1) ∧ callE 3 [some (.par, stV nums c), some (.sh, .int L), some (.sh, .int ((d + 1 : Nat) : Int))] (exSs (E (d + 1 + k + 1)) (b_law_saying.drop 3) (rst nums (c + 1) L (d + 1) r none)) = .ok false (enc s) [some (.par, stV nums c'), none, none] :=
        fun kd ch c' a1 a2 a3 a4 a5 a6 => ⟨_, c', a1, a2, a3, by simp only [dp]; omega, by simp only [sz]; omega, a6⟩
      by_cases e6 : r = 6
      · subst e6
        obtain ⟨s, c2, t1, t2, t3, t4, t5, t6⟩ := ih (c + 1) (by omega)
        exact node .not [s] c2 (by omega) (by omega) (by rw [fine]; exact ⟨⟨s, rfl⟩, by simp -implicitDefEqProofs, t3, trivial⟩) (by simp -implicitDefEqProofs [dps]; omega) (by simp -implicitDefEqProofs [szsL]; omega) (by simp -implicitDefEqProofs [b_law_saying, t6, enc, encs, encK])
      · by_cases e9 : r < 9
        · obtain ⟨s, c2, t1, t2, t3, t4, t5, t6⟩ := ih (c + 1) (by omega)
          obtain ⟨s', c3, u1, u2, u3, u4, u5, u6⟩ := ih c2 (by omega)
          have h2 : r = 7 ∨ r = 8 := by omega
          rcases h2 with rfl | rfl
          · exact node .thn [s, s'] c3 (by omega) (by omega) (by rw [fine]; exact ⟨⟨s, s', rfl⟩, by simp -implicitDefEqProofs, t3, u3, trivial⟩) (by simp -implicitDefEqProofs [dps]; omega) (by simp -implicitDefEqProofs [szsL]; omega) (by simp -implicitDefEqProofs [b_law_saying, t6, u6, enc, encs, encK])
          · exact node .same [s, s'] c3 (by omega) (by omega) (by rw [fine]; exact ⟨⟨s, s', rfl⟩, by simp -implicitDefEqProofs, t3, u3, trivial⟩) (by simp -implicitDefEqProofs [dps]; omega) (by simp -implicitDefEqProofs [szsL]; omega) (by simp -implicitDefEqProofs [b_law_saying, t6, u6, enc, encs, encK])
        · obtain ⟨ch, c2, g1, g2, g3, g4, g5, g6, ge⟩ := gen_parts N L d k (d + 1 + k) (Bd d) (Zd d) (d + 1) (by omega) ih r (c + 1) (by omega)
          obtain ⟨kd, c3, v1, v2, v3, ρ, ve⟩ := gen_tail N L (d + 1) (d + 1 + k) r c2 ch (by omega) (by omega) g3 g4
          have gz : ch.length * Zd d ≤ 3 * Zd d := Nat.mul_le_mul_right _ g3
          refine node kd ch c3 (by omega) (by omega) v3 g5 (by omega) ?_
          have mid : exSs (E (d + 1 + k + 1)) (b_law_saying.drop 3) (rst nums (c + 1) L (d + 1) r none) = exSs (E (d + 1 + k + 1)) (b_law_saying.drop 7) (rst nums c2 L (d + 1) r (some (.sh, .tup (encs ch)))) := by
            have f4 : ∀ q, exS (E (d + 1 + k + 1)) (.asg (.name 4) ptE) (rst nums (c + 1) L (d + 1) r none) = q → q = .ok .nx (rst nums c2 L (d + 1) r (some (.sh, .tup (encs ch)))) := fun q hq => by
              rw [← hq, exS_asg, show ev (E (d + 1 + k + 1)) false ptE (rst nums (c + 1) L (d + 1) r none) = _ from ge]
              simp -implicitDefEqProofs
            have f4 := f4 _ rfl
            have f1 : ∀ (b : List IS), exS (E (d + 1 + k + 1)) (.ifs (.cmp .eq (.var 3) (.cst (.int 5))) b []) (rst nums (c + 1) L (d + 1) r none) = .ok .nx (rst nums (c + 1) L (d + 1) r none) := fun b => by simp -implicitDefEqProofs [e5]
            have f2 : ∀ (b : List IS), exS (E (d + 1 + k + 1)) (.ifs (.cmp .eq (.var 3) (.cst (.int 6))) b []) (rst nums (c + 1) L (d + 1) r none) = .ok .nx (rst nums (c + 1) L (d + 1) r none) := fun b => by simp -implicitDefEqProofs [e6]
            have f3 : ∀ (b : List IS), exS (E (d + 1 + k + 1)) (.ifs (.cmp .lt (.var 3) (.cst (.int 9))) b []) (rst nums (c + 1) L (d + 1) r none) = .ok .nx (rst nums (c + 1) L (d + 1) r none) := fun b => by simp -implicitDefEqProofs [e9]
            simp only [b_law_saying, List.drop_succ_cons, List.drop_zero]
            rw [exSs_cons, f1, R.bind_ok, contS_nx, exSs_cons, f2, R.bind_ok, contS_nx, exSs_cons, f3, R.bind_ok, contS_nx, exSs_cons, f4, R.bind_ok, contS_nx]
          rw [mid, ve]
          exact callE3 _ _ _ _ _ _
end Cw.Ev
set_option Elab.async false
set_option linter.all false
set_option maxRecDepth 100000
set_option maxHeartbeats 4000000
set_option autoImplicit false
/-! k00, mathematics 9: the stream, theories drawn -/
namespace Cw.Ev
open PySem L2

theorem cut63 (ns : List Int) (h : ns.length ≤ 63) : cutP (ns.map PV.int) none (some 63) = ns.map .int := by
  unfold cutP
  have e : HT.sIx (ns.map PV.int).length (ns.map PV.int).length (some 63) = (ns.map PV.int).length := by
    show (if (63 : Int) < 0 then ((63 : Int) + ((ns.map PV.int).length : Int)).toNat else min (63 : Int).toNat (ns.map PV.int).length) = _
    rw [if_neg (by omega), List.length_map]
    omega
  rw [e, show HT.sIx (ns.map PV.int).length 0 none = 0 from rfl, List.drop_zero, Nat.sub_zero, List.take_length]
abbrev smS (ns nums : List Int) (x a b c : Slot) : Rho := [some (.sh, .scr ns), some (.own, .lst (nums.map .int)), x, a, b, c]
/-- the long numbers -/
theorem stream_big (k : Nat) (ns nums : List Int) (x b c : Slot) (rest : Int) (hb : shN b) (hn : nums.length ≤ 10000) :
    ∃ (more : List Int) (a b' : Slot), more.length ≤ 60 ∧ shN a ∧ shN b' ∧ exS (E k) (.for_ (.name 4) .range1 [(.cst (.int 60))] [.ex (.met .append 1 [(.bin .mod (.blt .int (.var 3)) (.cst (.int 1009)))]), .asg (.name 3) (.bin .fdiv (.var 3) (.cst (.int 1009))), .ifs (.cmp .eq (.var 3) (.cst (.int 0))) [.brk] []]) (smS ns nums x (some (.sh, .int rest)) b c) = .ok .nx (smS ns (nums ++ more) x a b' c) := by
  rw [exS_for (C := E k) (ρ1 := smS ns nums x (some (.sh, .int rest)) b c) (xs := (List.range 60).map fun j : Nat => PV.int (j : Int)) rfl (by simp -implicitDefEqProofs [itV_range1 60 (by omega)])]
  refine forLoop_gen (xs := (List.range 60).map fun j : Nat => PV.int (j : Int)) (P := fun i ρ => ∃ (more : List Int) (rest : Int) (b' : Slot), more.length ≤ i ∧ shN b' ∧ i ≤ 60 ∧ ρ = smS ns (nums ++ more) x (some (.sh, .int rest)) b' c) (Q := fun r => ∃ (more : List Int) (a b' : Slot), more.length ≤ 60 ∧ shN a ∧ shN b' ∧ r = .ok .nx (smS ns (nums ++ more) x a b' c)) _ 0 _ (Nat.zero_le _) rfl (fun i y ρ hi hP => ?_) (fun ρ hP => ?_) ⟨[], rest, b, Nat.zero_le _, hb, Nat.zero_le _, by simp -implicitDefEqProofs⟩
  · obtain ⟨more, rest, b', l1, hb', l2, rfl⟩ := hP
    obtain ⟨j, hj, rfl⟩ := map_at hi
    have lt : i < 60 := by have := (List.getElem?_eq_some_iff.mp hj).1; simpa using this
    rw [turn_eq]
    have lo : nums.length + more.length < 16777216 := by omega
    by_cases z : rest.fdiv 1009 = 0
    · right; left
      refine ⟨smS ns (nums ++ (more ++ [rest.fmod 1009])) x (some (.sh, .int (rest.fdiv 1009))) (some (.sh, .int j)) c, ?_, more ++ [rest.fmod 1009], _, _, by simp -implicitDefEqProofs; omega, .inr ⟨_, rfl⟩, .inr ⟨_, rfl⟩, rfl⟩
      simp -implicitDefEqProofs [setS_shN hb', lo, z]
    · left
      refine ⟨smS ns (nums ++ (more ++ [rest.fmod 1009])) x (some (.sh, .int (rest.fdiv 1009))) (some (.sh, .int j)) c, ?_, more ++ [rest.fmod 1009], _, _, by simp -implicitDefEqProofs; omega, .inr ⟨_, rfl⟩, by omega, rfl⟩
      simp -implicitDefEqProofs [setS_shN hb', lo, z]
  · obtain ⟨more, rest, b', l1, hb', l2, rfl⟩ := hP
    exact ⟨more, _, _, by simpa using l1, .inr ⟨_, rfl⟩, hb', rfl⟩
theorem stream_small (k : Nat) (ns nums : List Int) (x a b : Slot) (stirred : Int) (hb : shN b) (hn : nums.length ≤ 10000) :
    ∃ (more : List Int) (b' c : Slot), more.length = 10 ∧ shN b' ∧ shN c ∧ exS (E k) (.for_ (.name 4) .range1 [(.cst (.int 10))] [.asg (.name 5) (.bin .mod (.blt .int (.bin .add (.bin .add (.bin .mul (.var 5) (.cst (.int 48271))) (.bin .mul (.cst (.int 7)) (.var 4))) (.cst (.int 11)))) (.cst (.int 2147483647))), .ex (.met .append 1 [(.bin .mod (.bin .mod (.blt .int (.bin .add (.bin .mul (.var 5) (.cst (.int 69621))) (.var 4))) (.cst (.int 2147483629))) (.cst (.int 1009)))])]) (smS ns nums x a b (some (.sh, .int stirred))) = .ok .nx (smS ns (nums ++ more) x a b' c) := by
  obtain ⟨ρ', e, more, st, b', l1, hb', rfl⟩ := for_run (C := E k) (tg := .name 4) (ik := .range1) (its := [(.cst (.int 10))]) (b := [.asg (.name 5) (.bin .mod (.blt .int (.bin .add (.bin .add (.bin .mul (.var 5) (.cst (.int 48271))) (.bin .mul (.cst (.int 7)) (.var 4))) (.cst (.int 11)))) (.cst (.int 2147483647))), .ex (.met .append 1 [(.bin .mod (.bin .mod (.blt .int (.bin .add (.bin .mul (.var 5) (.cst (.int 69621))) (.var 4))) (.cst (.int 2147483629))) (.cst (.int 1009)))])])
    (ρ := smS ns nums x a b (some (.sh, .int stirred))) (smS ns nums x a b (some (.sh, .int stirred))) ((List.range 10).map fun j : Nat => PV.int (j : Int)) (fun i ρ => ∃ (more : List Int) (st : Int) (b' : Slot), more.length = i ∧ shN b' ∧ ρ = smS ns (nums ++ more) x a b' (some (.sh, .int st))) rfl (by simp -implicitDefEqProofs [itV_range1 10 (by omega)]) (fun i y ρ hi hP => by
      obtain ⟨more, st, b', l1, hb', rfl⟩ := hP
      obtain ⟨j, hj, rfl⟩ := map_at hi
      have lt : i < 10 := by have := (List.getElem?_eq_some_iff.mp hj).1; simpa using this
      have lo : nums.length + more.length < 16777216 := by omega
      have e : ∃ z w, (bindT (.name 4) (.int j) (smS ns (nums ++ more) x a b' (some (.sh, .int st)))).bind (kTn (E k) [.asg (.name 5) (.bin .mod (.blt .int (.bin .add (.bin .add (.bin .mul (.var 5) (.cst (.int 48271))) (.bin .mul (.cst (.int 7)) (.var 4))) (.cst (.int 11)))) (.cst (.int 2147483647))), .ex (.met .append 1 [(.bin .mod (.bin .mod (.blt .int (.bin .add (.bin .mul (.var 5) (.cst (.int 69621))) (.var 4))) (.cst (.int 2147483629))) (.cst (.int 1009)))])]) = .ok .nx (smS ns (nums ++ (more ++ [w])) x a (some (.sh, .int j)) (some (.sh, .int z))) := by
        refine ⟨(st * 48271 + 7 * j + 11).fmod 2147483647, (((st * 48271 + 7 * j + 11).fmod 2147483647 * 69621 + j).fmod 2147483629).fmod 1009, ?_⟩
        simp -implicitDefEqProofs [setS_shN hb', lo]
      obtain ⟨z, w, e⟩ := e
      exact ⟨_, e, _, _, _, by simp -implicitDefEqProofs [l1], .inr ⟨_, rfl⟩, rfl⟩) ⟨[], stirred, b, rfl, hb, by simp -implicitDefEqProofs⟩
  exact ⟨more, _, _, by simpa using l1, hb', .inr ⟨_, rfl⟩, e⟩
/-- _law_stream -/
theorem stream_spec (k : Nat) (ns : List Int) (h : ns.length ≤ 63) : ∃ nums : List Int, Nums nums ∧ E (k + 1) 11 [some (.sh, .scr ns)] = .ok true (.lst (nums.map .int)) [none] := by
  obtain ⟨ρ', e, nums, x, a, b, c, l1, hx, ha, hb, hc, rfl⟩ := for_run (C := E k) (tg := .name 2) (ik := .seq) (its := [(.slc (.var 0) (.cst .non) (.cst (.int 63)))]) (b := [.asg (.name 3) (.blt .abs (.blt .int (.var 2))), .ifs (.cmp .ge (.var 3) (.bin .pow (.cst (.int 10)) (.cst (.int 18)))) [.for_ (.name 4) .range1 [(.cst (.int 60))] [.ex (.met .append 1 [(.bin .mod (.blt .int (.var 3)) (.cst (.int 1009)))]), .asg (.name 3) (.bin .fdiv (.var 3) (.cst (.int 1009))), .ifs (.cmp .eq (.var 3) (.cst (.int 0))) [.brk] []]] [.asg (.name 5) (.bin .mod (.blt .int (.var 3)) (.cst (.int 2147483647))), .for_ (.name 4) .range1 [(.cst (.int 10))] [.asg (.name 5) (.bin .mod (.blt .int (.bin .add (.bin .add (.bin .mul (.var 5) (.cst (.int 48271))) (.bin .mul (.cst (.int 7)) (.var 4))) (.cst (.int 11)))) (.cst (.int 2147483647))), .ex (.met .append 1 [(.bin .mod (.bin .mod (.blt .int (.bin .add (.bin .mul (.var 5) (.cst (.int 69621))) (.var 4))) (.cst (.int 2147483629))) (.cst (.int 1009)))])]]])
    (ρ := smS ns [] none none none none) (smS ns [] none none none none) (ns.map .int) (fun i ρ => ∃ (nums : List Int) (x a b c : Slot), nums.length ≤ 60 * i ∧ shN x ∧ shN a ∧ shN b ∧ shN c ∧ ρ = smS ns nums x a b c) rfl (by simp -implicitDefEqProofs [cut63 ns h]) (fun i y ρ hi hP => by
      obtain ⟨nums, x, a, b, c, l1, hx, ha, hb, hc, rfl⟩ := hP
      obtain ⟨n, hn, rfl⟩ := map_at hi
      have lt : i < ns.length := (List.getElem?_eq_some_iff.mp hn).1
      by_cases big : (1000000000000000000 : Int) ≤ (if n < 0 then -n else n)
      · obtain ⟨more, a', b', m1, m2, m3, me⟩ := stream_big k ns nums (some (.sh, .int n)) b c (if n < 0 then -n else n) hb (by omega)
        refine ⟨smS ns (nums ++ more) (some (.sh, .int n)) a' b' c, ?_, nums ++ more, _, _, _, _, by simp -implicitDefEqProofs; omega, .inr ⟨_, rfl⟩, m2, m3, hc, rfl⟩
        simp -implicitDefEqProofs [setS_shN hx, setS_shN ha, pow1018, big]
        simp -implicitDefEqProofs [smS] at me
        rw [me]
        simp -implicitDefEqProofs
      · obtain ⟨more, b', c', m1, m2, m3, me⟩ := stream_small k ns nums (some (.sh, .int n)) (some (.sh, .int (if n < 0 then -n else n))) b ((if n < 0 then -n else n).fmod 2147483647) hb (by omega)
        refine ⟨smS ns (nums ++ more) (some (.sh, .int n)) (some (.sh, .int (if n < 0 then -n else n))) b' c', ?_, nums ++ more, _, _, _, _, by simp -implicitDefEqProofs; omega, .inr ⟨_, rfl⟩, .inr ⟨_, rfl⟩, m2, m3, rfl⟩
        simp -implicitDefEqProofs [setS_shN hx, setS_shN ha, setS_shN hc, pow1018, big]
        simp -implicitDefEqProofs [smS] at me
        rw [me]
        simp -implicitDefEqProofs) ⟨[], none, none, none, none, by simp -implicitDefEqProofs, .inl rfl, .inl rfl, .inl rfl, .inl rfl, rfl⟩
  have l2 : nums.length ≤ 60 * 63 := by
    rw [List.length_map] at l1
    omega
  by_cases z : nums = []
  · subst z
    refine ⟨[0], ⟨by simp -implicitDefEqProofs, by simp -implicitDefEqProofs⟩, ?_⟩
    show callF ⟨1, n_law_stream.length, b_law_stream⟩ (E k) _ = _
    simp -implicitDefEqProofs [n_law_stream, b_law_stream]
    simp -implicitDefEqProofs [smS] at e
    rw [e]
    simp -implicitDefEqProofs
  · refine ⟨nums, ⟨z, by omega⟩, ?_⟩
    show callF ⟨1, n_law_stream.length, b_law_stream⟩ (E k) _ = _
    simp -implicitDefEqProofs [n_law_stream, b_law_stream]
    simp -implicitDefEqProofs [smS] at e
    rw [e]
    simp -implicitDefEqProofs [z]
end Cw.Ev
set_option Elab.async false
set_option linter.all false
set_option maxRecDepth 100000
set_option maxHeartbeats 4000000
set_option autoImplicit false
/-! k00, mathematics 10: theories drawn, theories spoilt -/
namespace Cw.Ev
open PySem L2

/-- a drawn theory -/
structure Dr (L : Int) (ss : List Sy) : Prop where
  lo : 0 ≤ L
  hi : L ≤ 5
  few : ss.length ≤ 4
  ok : ∀ s ∈ ss, fine L s ∧ sz s ≤ 13 ∧ dp s ≤ 3
theorem Dr.th {L : Int} {ss : List Sy} (h : Dr L ss) : Th L ss := ⟨h.lo, by have := h.hi; omega, by have := h.few; omega, fun s hs => by obtain ⟨a, b, c⟩ := h.ok s hs; exact ⟨a, by omega, by omega⟩⟩
theorem szsL_le (n : Nat) : ∀ l : List Sy, (∀ s ∈ l, sz s ≤ n) → szsL l ≤ l.length * n
  | [], _ => Nat.zero_le _
  | s :: r, h => by
    have := szsL_le n r fun x hx => h x (List.mem_cons_of_mem _ hx)
    have := h s List.mem_cons_self
    rw [szsL, List.length_cons, Nat.add_mul]
    omega
theorem Dr.size {L : Int} {ss : List Sy} (h : Dr L ss) : szsL ss ≤ 52 := by
  have := szsL_le 13 ss fun s hs => (h.ok s hs).2.1
  have := Nat.mul_le_mul_right 13 h.few
  omega
theorem fines_of {L : Int} : ∀ {l : List Sy}, (∀ s ∈ l, fine L s) → fines L l
  | [], _ => trivial
  | s :: r, h => ⟨h s List.mem_cons_self, fines_of fun x hx => h x (List.mem_cons_of_mem _ hx)⟩
/-- _law_theory -/
theorem lawtheory_spec {nums : List Int} (N : Nums nums) (k : Nat) (c : Int) (hc : 0 ≤ c ∧ c + 400 < 2 ^ 59) : ∃ (L : Int) (ss : List Sy) (c' : Int), c ≤ c' ∧ c' ≤ c + 400 ∧ Dr L ss ∧
    E (k + 5) 14 [some (.par, stV nums c), some (.sh, .int 5), some (.sh, .int 4)] = .ok false (thV L (encs ss)) [some (.par, stV nums c'), none, none] := by
  obtain ⟨L, L0, L1, e⟩ := next_at N (k + 3) c 6 (by omega) (by omega)
  obtain ⟨q, q0, q1, e1⟩ := next_at N (k + 3) (c + 1) 5 (by omega) (by omega)
  obtain ⟨ds, ρ6, ⟨ss, c', x, rfl, rfl, p1, p2, p3, p4⟩, e2⟩ := lcp_exn (C := E (k + 4)) (own := [4]) (tg := .name 4) (ik := .range1) (its := [(.call 12 [(.var 0), (.bin .add (.var 2) (.cst (.int 1)))])]) (conds := []) (elt := (.call 13 [(.var 0), (.var 3), (.cst (.int 2))])) (ρ := [some (.par, stV nums (c + 1)), some (.sh, .int 5), some (.sh, .int 4), some (.sh, .int L), none])
    [some (.par, stV nums (c + 1 + 1)), some (.sh, .int 5), some (.sh, .int 4), some (.sh, .int L), none] ((List.range q.toNat).map fun j : Nat => PV.int (j : Int))
    (fun i acc ρ => ∃ (ss : List Sy) (c' : Int) (x : Slot), acc = encs ss ∧ ρ = [some (.par, stV nums c'), some (.sh, .int 5), some (.sh, .int 4), some (.sh, .int L), x] ∧ ss.length = i ∧ c ≤ c' ∧ c' ≤ c + 2 + 76 * i ∧ ∀ s ∈ ss, fine L s ∧ sz s ≤ 13 ∧ dp s ≤ 3) rfl (by
      simp -implicitDefEqProofs [e1, itV_range1 q (by omega)]) (fun i x acc ρ hi hP => by
      obtain ⟨ss, c', x, rfl, rfl, p1, p2, p3, p4⟩ := hP
      obtain ⟨j, hj, rfl⟩ := map_at hi
      have lt : i < q.toNat := by have := (List.getElem?_eq_some_iff.mp hj).1; simpa using this
      have b2 : Bd 2 = 76 := by simp -implicitDefEqProofs [Bd]
      have z2 : Zd 2 = 13 := by simp -implicitDefEqProofs [Zd]
      obtain ⟨s, c2, t1, t2, t3, t4, t5, t6⟩ := saying_spec N L L0 (by omega) 2 k c' ⟨by omega, by omega⟩
      rw [show 2 + k + 2 = k + 4 by omega] at t6
      refine ⟨some (enc s), [some (.par, stV nums c2), some (.sh, .int 5), some (.sh, .int 4), some (.sh, .int L), some (.sh, .int j)], ?_, ss ++ [s], c2, _, by simp -implicitDefEqProofs [encs_map], rfl, by simp -implicitDefEqProofs [p1], by omega, by omega, fun x hx => ?_⟩
      · simp -implicitDefEqProofs at t6
        simp -implicitDefEqProofs [t6]
      · rcases List.mem_append.mp hx with hx | hx
        · exact p4 x hx
        · simp -implicitDefEqProofs at hx; subst hx; exact ⟨t3, by omega, t4⟩) ⟨[], c + 1 + 1, none, rfl, rfl, rfl, by omega, by omega, fun _ z => by cases z⟩ (fun ds ρ6 ⟨ch, _, _, h, _, h2, _⟩ => by
        rw [h, encs_len, h2]; simp -implicitDefEqProofs; omega)
  simp only [List.length_map, List.length_range] at p1 p3
  refine ⟨L, ss, c', p2, by omega, ⟨L0, by omega, by omega, p4⟩, ?_⟩
  show callF ⟨3, n_law_theory.length, b_law_theory⟩ (E (k + 4)) _ = _
  simp -implicitDefEqProofs at e2
  simp -implicitDefEqProofs [n_law_theory, b_law_theory, e, e2]
/-! ### wrong sayings -/
theorem check_no (k : Nat) (L : Int) (y : PV) (h : E (k + 1) 3 [some (.sh, .int L), some (.sh, y)] = .ok false (.bl false) [none, none]) : E (k + 2) 5 [some (.sh, .int L), some (.sh, y)] = .exc 0 .non := by
  have e : exS (E (k + 1)) (.whl csC csB) [some (.sh, .int L), some (.sh, y), some (.own, .lst [.tup [y, .int 1]]), some (.sh, .int 0), none, none, none] = .exc 0 .non [some (.sh, .int L), some (.sh, y), some (.own, .lst []), some (.sh, .int 1), some (.sh, y), some (.sh, .int 1), none] := by
    refine whl_exc1 (f := false) (ρ1 := [some (.sh, .int L), some (.sh, y), some (.own, .lst [.tup [y, .int 1]]), some (.sh, .int 0), none, none, none]) (by simp -implicitDefEqProofs [csC]) ?_
    have p := pop_lst [] (.tup [y, .int 1])
    simp -implicitDefEqProofs at p
    simp -implicitDefEqProofs [csB, p, h]
  show callF ⟨2, n_check_saying.length, b_check_saying⟩ (E (k + 1)) _ = _
  simp -implicitDefEqProofs [n_check_saying, b_check_saying]
  rw [e]
  simp -implicitDefEqProofs
def wrongs (L : Int) : List PV := [.tup [], .tup [.str sLetter, .int 0], .tup [.str sLetter, .int (L + 1)], .tup [.str sLetter], .tup [.str sYes, .int 1], .tup [.str sThen, .tup [.str sYes]], .tup [.str sAll], .tup [.str sLeast, .int 1], .tup [.str [109, 97, 121, 98, 101]],
  .tup [.str sSum, .int 1, .tup [.tup [.int 1]]], .tup [.str sSum, .int 1001, .tup []], .tup [.str sMost, .int (-1001), .tup []], .tup [.str sSum, .int 0, .tup [.tup [.int 1001, .tup [.str sYes]]]]]
theorem wrong_kind (k : Nat) (L : Int) : ∀ y ∈ wrongs L, E (k + 1) 3 [some (.sh, .int L), some (.sh, y)] = .ok false (.bl false) [none, none] := by
  intro y hy
  show callF ⟨2, n_is_kind.length, b_is_kind⟩ (E k) _ = _
  simp only [callF_eq, n_is_kind, List.length_cons, List.length_nil, List.replicate, List.cons_append, List.nil_append, kind_start, Nat.zero_add, Nat.reduceAdd, Nat.reduceSub]
  simp only [wrongs, List.mem_cons, List.not_mem_nil, or_false] at hy
  rcases hy with rfl | rfl | rfl | rfl | rfl | rfl | rfl | rfl | rfl | rfl | rfl | rfl | rfl
  · simp -implicitDefEqProofs [b_is_kind]
  · simp -implicitDefEqProofs [b_is_kind]
  · have : ¬ (L + 1 ≤ L) := by omega
    by_cases c : 1 ≤ L + 1 <;> simp -implicitDefEqProofs [b_is_kind, c, this]
  · simp -implicitDefEqProofs [b_is_kind]
  · simp -implicitDefEqProofs [b_is_kind]
  · simp -implicitDefEqProofs [b_is_kind]
  · simp -implicitDefEqProofs [b_is_kind]
  · simp -implicitDefEqProofs [b_is_kind]
  · simp -implicitDefEqProofs [b_is_kind]
  · simp -implicitDefEqProofs [b_is_kind]
    rw [ev_lcp (C := E k) (ρ1 := [some (.sh, .int L), some (.sh, .tup [.str sSum, .int 1, .tup [.tup [.int 1]]]), some (.own, .dct 0 szs), none]) (xs := [.tup [.int 1]]) (ds := [.bl false]) (ρ6 := [some (.sh, .int L), some (.sh, .tup [.str sSum, .int 1, .tup [.tup [.int 1]]]), some (.own, .dct 0 szs), some (.sh, .tup [.int 1])]) rfl (by simp -implicitDefEqProofs) (by simp -implicitDefEqProofs [compLoop]) (by simp -implicitDefEqProofs)]
    simp -implicitDefEqProofs [allBl]
  · simp -implicitDefEqProofs [b_is_kind]
    rw [ev_lcp (C := E k) (ρ1 := [some (.sh, .int L), some (.sh, .tup [.str sSum, .int 1001, .tup []]), some (.own, .dct 0 szs), none]) (xs := []) (ds := []) (ρ6 := [some (.sh, .int L), some (.sh, .tup [.str sSum, .int 1001, .tup []]), some (.own, .dct 0 szs), none]) rfl (by simp -implicitDefEqProofs) (by simp -implicitDefEqProofs [compLoop]) (by simp -implicitDefEqProofs)]
    simp -implicitDefEqProofs [allBl]
  · simp -implicitDefEqProofs [b_is_kind]
  · simp -implicitDefEqProofs [b_is_kind]
    rw [ev_lcp (C := E k) (ρ1 := [some (.sh, .int L), some (.sh, .tup [.str sSum, .int 0, .tup [.tup [.int 1001, .tup [.str sYes]]]]), some (.own, .dct 0 szs), none]) (xs := [.tup [.int 1001, .tup [.str sYes]]]) (ds := [.bl false]) (ρ6 := [some (.sh, .int L), some (.sh, .tup [.str sSum, .int 0, .tup [.tup [.int 1001, .tup [.str sYes]]]]), some (.own, .dct 0 szs), some (.sh, .tup [.int 1001, .tup [.str sYes]])]) rfl (by simp -implicitDefEqProofs) (by simp -implicitDefEqProofs [compLoop]) (by simp -implicitDefEqProofs)]
    simp -implicitDefEqProofs [allBl]
/-! ### chains of not -/
def nots : Nat → Sy
  | 0 => .mk .yes []
  | n + 1 => .mk .not [nots n]
theorem nots_fine (L : Int) : ∀ n, fine L (nots n)
  | 0 => leaf_yes L
  | n + 1 => by rw [nots, fine]; exact ⟨⟨_, rfl⟩, by simp -implicitDefEqProofs, nots_fine L n, trivial⟩
theorem nots_sz : ∀ n, sz (nots n) = n + 1
  | 0 => rfl
  | n + 1 => by simp -implicitDefEqProofs [nots, sz, szsL, nots_sz n]; omega
theorem nots_dp : ∀ n, dp (nots n) = n + 1
  | 0 => rfl
  | n + 1 => by simp -implicitDefEqProofs [nots, dp, dps, nots_dp n]; omega
theorem nots_enc (n : Nat) : enc (nots (n + 1)) = .tup [.str sNot, enc (nots n)] := by simp -implicitDefEqProofs [nots, enc, encs, encK]
/-- a theory that is refused, and as what -/
def Odd (t : PV) (c : Nat) : Prop := c < 5 ∧ tame t = true ∧ dep t ≤ 60 ∧ ∀ k, E (k + 3) 4 [some (.sh, t)] = .exc c .non
theorem odd_wrong (L : Int) (ss : List Sy) (h : Dr L ss) (y : PV) (hy : y ∈ wrongs L) : ∀ k, E (k + 3) 4 [some (.sh, thV L (encs ss ++ [y]))] = .exc 0 .non := fun k => theory_bad k L ss y 0 h.th (by have := h.few; omega) (check_no k L y (wrong_kind k L y hy))
theorem odd_deep (L : Int) (ss : List Sy) (h : Dr L ss) : ∀ k, E (k + 3) 4 [some (.sh, thV L (encs ss ++ [enc (nots 10)]))] = .exc 1 .non := fun k => theory_bad k L ss _ 1 h.th (by have := h.few; omega) (by
  rcases check_spec k L (nots 10) (nots_fine L 10) (by rw [nots_sz]; omega) with ⟨_, q, _⟩ | ⟨_, e⟩
  · rw [nots_dp] at q; omega
  · exact e)
abbrev odS (S : PV) (th a b c d e : Slot) (L : Int) (xs : List PV) : Rho := [some (.par, S), some (.sh, thV L xs), a, b, c, d, some (.sh, .int L), some (.sh, .tup xs)]
theorem E18 (k : Nat) (as : List Slot) : E (k + 1) 18 as = callF ⟨2, n_law_odd_theory.length, b_law_odd_theory⟩ (E k) as := rfl
/-- _law_odd_theory -/
theorem odd_spec {nums : List Int} (N : Nums nums) (k : Nat) (c L : Int) (ss : List Sy) (h : Dr L ss) (hc : 0 ≤ c ∧ c < 2 ^ 59) : ∃ (t : PV) (q : Nat), q < 5 ∧ (∀ k, E (k + 3) 4 [some (.sh, t)] = .exc q .non) ∧
    E (k + 2) 18 [some (.par, stV nums c), some (.sh, thV L (encs ss))] = .ok false (.tup [t, errStr q]) [some (.par, stV nums (c + 1)), none] := by
  obtain ⟨r, r0, r1, e⟩ := next_at N k c 17 (by omega) (by omega)
  obtain ⟨ρ', e2, x, rfl, hx⟩ := for_run (C := E (k + 1)) (tg := .name 3) (ik := .range1) (its := [(.cst (.int 10))]) (b := [.asg (.name 2) (.tup [(.cst (.str [110, 111, 116])), (.var 2)])]) (ρ := [some (.par, stV nums c), some (.sh, thV L (encs ss)), some (.sh, .tup [.str sYes]), none, none, none, some (.sh, .int L), some (.sh, .tup (encs ss))])
    [some (.par, stV nums c), some (.sh, thV L (encs ss)), some (.sh, .tup [.str sYes]), none, none, none, some (.sh, .int L), some (.sh, .tup (encs ss))] ((List.range 10).map fun j : Nat => PV.int (j : Int)) (fun i ρ => ∃ x, ρ = [some (.par, stV nums c), some (.sh, thV L (encs ss)), some (.sh, enc (nots i)), x, none, none, some (.sh, .int L), some (.sh, .tup (encs ss))] ∧ shN x) rfl (by simp -implicitDefEqProofs [itV_range1 10 (by omega)]) (fun i y ρ hi hP => by
      obtain ⟨x, rfl, hx⟩ := hP
      obtain ⟨j, hj, rfl⟩ := map_at hi
      refine ⟨[some (.par, stV nums c), some (.sh, thV L (encs ss)), some (.sh, enc (nots (i + 1))), some (.sh, .int j), none, none, some (.sh, .int L), some (.sh, .tup (encs ss))], ?_, _, rfl, .inr ⟨_, rfl⟩⟩
      rw [nots_enc]
      simp -implicitDefEqProofs [setS_shN hx]) ⟨none, rfl, .inl rfl⟩
  rw [show ((List.range 10).map fun j : Nat => PV.int (j : Int)).length = 10 from rfl] at e2
  have lo : (encs ss).length + 1 ≤ 16777216 := by rw [encs_len]; have := h.few; omega
  have run : ∀ (t : PV) (q : Nat), q < 5 → (∀ k, E (k + 3) 4 [some (.sh, t)] = .exc q .non) → E (k + 2) 18 [some (.par, stV nums c), some (.sh, thV L (encs ss))] = .ok false (.tup [t, errStr q]) [some (.par, stV nums (c + 1)), none] → ∃ (t : PV) (q : Nat), q < 5 ∧ (∀ k, E (k + 3) 4 [some (.sh, t)] = .exc q .non) ∧ E (k + 2) 18 [some (.par, stV nums c), some (.sh, thV L (encs ss))] = .ok false (.tup [t, errStr q]) [some (.par, stV nums (c + 1)), none] := fun t q a b d => ⟨t, q, a, b, d⟩
  by_cases r13 : r < 13
  · obtain ⟨y, hy⟩ : ∃ y, ixAt (wrongs L) r = some y := by
      rw [ixAt_at _ _ r0 (by simpa [wrongs] using r13)]
      exact ⟨_, List.getElem?_eq_getElem (by simp -implicitDefEqProofs [wrongs]; omega)⟩
    have hm : y ∈ wrongs L := by
      rw [ixAt_at _ _ r0 (by simpa [wrongs] using r13)] at hy
      exact List.mem_of_getElem? hy
    refine run _ 0 (by omega) (odd_wrong L ss h y hm) ?_
    simp only [wrongs] at hy
    rw [E18]
    simp -implicitDefEqProofs [n_law_odd_theory, b_law_odd_theory]
    rw [e2]
    simp -implicitDefEqProofs [hx, setS_shN hx, e, r13, hy, lo, errStr]
  · by_cases r13' : r = 13
    · subst r13'
      refine run (thV (-1) []) 0 (by omega) (fun k => theory_neg k _ _ (by omega) (by simp -implicitDefEqProofs)) ?_
      rw [E18]
      simp -implicitDefEqProofs [n_law_odd_theory, b_law_odd_theory]
      rw [e2]
      simp -implicitDefEqProofs [e, errStr]
    · have : r = 14 ∨ r = 15 ∨ r = 16 := by omega
      have m31 := binV_mul_tup [.tup [.str sYes]] 31 (by omega) (by simp -implicitDefEqProofs) (by simp -implicitDefEqProofs)
      rcases this with rfl | rfl | rfl
      · refine run (thV 21 []) 1 (by omega) (fun k => theory_large k _ _ (by omega)) ?_
        rw [E18]
        simp -implicitDefEqProofs [n_law_odd_theory, b_law_odd_theory]
        rw [e2]
        simp -implicitDefEqProofs [e, errStr, m31, lo]
      · refine run (thV L (List.replicate (31 : Int).toNat [.tup [.str sYes]]).flatten) 1 (by omega) (fun k => theory_large k _ _ (.inr (by simp -implicitDefEqProofs))) ?_
        rw [E18]
        simp -implicitDefEqProofs [n_law_odd_theory, b_law_odd_theory]
        rw [e2]
        simp -implicitDefEqProofs [e, errStr, m31, lo]
      · refine run _ 1 (by omega) (odd_deep L ss h) ?_
        rw [E18]
        simp -implicitDefEqProofs [n_law_odd_theory, b_law_odd_theory]
        rw [e2]
        simp -implicitDefEqProofs [e, errStr, m31, lo]
end Cw.Ev
set_option Elab.async false
set_option linter.all false
set_option maxRecDepth 100000
set_option maxHeartbeats 4000000
set_option autoImplicit false
/-! k00, mathematics 11: the law's turn, first half -/
namespace Cw.Ev
open PySem L2

def anyN (a : Slot) : Prop := a = none ∨ (∃ x, a = some (.sh, x)) ∨ ∃ x, a = some (.own, x)
theorem setS_any {i : Nat} {fr : Bool} {d : PV} {a : Slot} {ρ : Rho} (h : anyN a) : setS i fr d (some a) ρ = .ok () (ρ.set i (some (if fr then .own else .sh, d))) := by
  rcases h with rfl | ⟨x, rfl⟩ | ⟨x, rfl⟩ <;> rfl
theorem anyN.none : anyN none := .inl rfl
theorem anyN.sh (x : PV) : anyN (some (.sh, x)) := .inr (.inl ⟨x, rfl⟩)
theorem anyN.own (x : PV) : anyN (some (.own, x)) := .inr (.inr ⟨x, rfl⟩)
theorem shN.any {a : Slot} (h : shN a) : anyN a := h.imp_right .inl
/-- the law's names: all that changes in a turn -/
abbrev lwS (ns : List Int) (S : PV) (x2 x7 x8 x9 x10 x11 x12 x13 x14 x15 x16 x17 : Slot) : Rho := [some (.sh, .scr ns), some (.own, S), x2, none, none, none, none, x7, x8, x9, x10, x11, x12, x13, x14, x15, x16, x17, none]
theorem th_tame {L : Int} {ss : List Sy} (h : Dr L ss) : tame (thV L (encs ss)) = true ∧ mass (thV L (encs ss)) ≤ 10000 ∧ dep (thV L (encs ss)) ≤ 20 := by
  obtain ⟨t1, t2, t3⟩ := encs_tame (L := L) (by have := h.hi; omega) ss (fines_of fun s hs => (h.ok s hs).1)
  have hs := h.size
  have hd : dps ss ≤ 3 := (dps_le 3 ss).mpr fun s hs => (h.ok s hs).2.2
  have hL : tI L = true := by unfold tI; rw [decide_eq_true_eq]; have := h.lo; have := h.hi; omega
  simp -implicitDefEqProofs [tame, tames, mass, masses, dep, deps, t1, hL]
  omega
def kept (L : Int) (ss : List Sy) : PV := .str (strOf (toPD (thV L (encs ss))).shown)
theorem th_repr {L : Int} {ss : List Sy} (h : Dr L ss) : bltV .repr [thV L (encs ss)] = some (false, kept L ss) := by
  obtain ⟨t1, t2, t3⟩ := th_tame h
  exact repr_ok t1 rfl (by omega) (by omega)
section
variable {ns nums : List Int} {x2 x7 x8 x9 x10 x11 x12 x13 x14 x15 x16 x17 : Slot}
/-- rows 1 to 3 -/
theorem g1 (N : Nums nums) (c : Int) (hc : 0 ≤ c ∧ c + 400 < 2 ^ 59) (h7 : anyN x7) (h8 : anyN x8) (h14 : anyN x14) (h15 : anyN x15) : ∃ (L : Int) (ss : List Sy) (c' : Int), c ≤ c' ∧ c' ≤ c + 400 ∧ Dr L ss ∧ ∀ rest,
    exSs (E 30) (.asg (.name 7) (.call 14 [(.var 1), (.cst (.int 5)), (.cst (.int 4))]) :: .asg (.name 8) (.blt .repr (.var 7)) :: .asg (.tup [(.name 14), (.name 15)]) (.var 7) :: rest) (lwS ns (stV nums c) x2 x7 x8 x9 x10 x11 x12 x13 x14 x15 x16 x17) =
      exSs (E 30) rest (lwS ns (stV nums c') x2 (some (.sh, thV L (encs ss))) (some (.sh, kept L ss)) x9 x10 x11 x12 x13 (some (.sh, .int L)) (some (.sh, .tup (encs ss))) x16 x17) := by
  obtain ⟨L, ss, c', a1, a2, a3, a4⟩ := lawtheory_spec N 25 c hc
  refine ⟨L, ss, c', a1, a2, a3, fun rest => ?_⟩
  have a4 : E 30 14 [some (.par, stV nums c), some (.sh, .int 5), some (.sh, .int 4)] = .ok false (thV L (encs ss)) [some (.par, stV nums c'), none, none] := a4
  have hr := th_repr a3
  simp -implicitDefEqProofs [a4, setS_any h7, setS_any h8, setS_any h14, setS_any h15, hr]
/-- rows 4, 5 -/
theorem g2 {L : Int} {ss : List Sy} (h : Dr L ss) (S : PV) (h9 : anyN x9) (h10 : anyN x10) (x14 : Slot) : ∃ y, anyN y ∧ ∀ rest,
    exSs (E 30) (.asg (.name 9) (.lst []) :: .for_ (.name 10) .seq [(.var 15)] [.asg (.name 9) (.bin .add (.var 9) (.call 21 [(.var 10)]))] :: rest) (lwS ns S x2 x7 x8 x9 x10 x11 x12 x13 x14 (some (.sh, .tup (encs ss))) x16 x17) =
      exSs (E 30) rest (lwS ns S x2 x7 x8 (some (.own, .lst ((walks ss).map enc))) y x11 x12 x13 x14 (some (.sh, .tup (encs ss))) x16 x17) := by
  obtain ⟨ρ', e, y, rfl, hy⟩ := for_run (C := E 30) (tg := .name 10) (ik := .seq) (its := [(.var 15)]) (b := [.asg (.name 9) (.bin .add (.var 9) (.call 21 [(.var 10)]))]) (ρ := lwS ns S x2 x7 x8 (some (.own, .lst [])) x10 x11 x12 x13 x14 (some (.sh, .tup (encs ss))) x16 x17)
    (lwS ns S x2 x7 x8 (some (.own, .lst [])) x10 x11 x12 x13 x14 (some (.sh, .tup (encs ss))) x16 x17) (ss.map enc) (fun i ρ => ∃ y, ρ = lwS ns S x2 x7 x8 (some (.own, .lst ((walks (ss.take i)).map enc))) y x11 x12 x13 x14 (some (.sh, .tup (encs ss))) x16 x17 ∧ anyN y) rfl (by simp -implicitDefEqProofs [encs_map]) (fun i x ρ hi hP => by
      obtain ⟨y, rfl, hy⟩ := hP
      obtain ⟨s, hs, rfl⟩ := map_at hi
      obtain ⟨q1, q2, q3⟩ := h.ok s (List.mem_of_getElem? hs)
      have hw : E 30 21 [some (.sh, enc s)] = .ok true (.lst ((walk s).map enc)) [none] := walk12 18 L s (by omega) q1 (by omega)
      have l1 : (walks (ss.take i)).length + (walk s).length ≤ 16777216 := by
        have q := congrArg szsL (List.take_append_drop (i + 1) ss)
        rw [szsL_app, take_at hs, szsL_app] at q
        have := h.size
        rw [walks_len, walk_len]
        simp -implicitDefEqProofs [szsL] at q
        omega
      refine ⟨lwS ns S x2 x7 x8 (some (.own, .lst ((walks (ss.take (i + 1))).map enc))) (some (.sh, enc s)) x11 x12 x13 x14 (some (.sh, .tup (encs ss))) x16 x17, ?_, _, rfl, .sh _⟩
      simp -implicitDefEqProofs [setS_any hy, hw, l1, take_at hs, walks_app, walks]) ⟨x10, by simp -implicitDefEqProofs [walks], h10⟩
  rw [show (ss.map enc).length = ss.length from List.length_map _, List.take_of_length_le (Nat.le_refl _)] at e
  refine ⟨y, hy, fun rest => ?_⟩
  simp only [lwS] at e
  simp -implicitDefEqProofs [setS_any h9, e]
def holdB (ss : List Sy) (r : List Int) : Bool := ss.all (val r)
abbrev goodL (n : Nat) (ss : List Sy) : List PV := ((rowsN n).filter (holdB ss)).map rowW
/-- row 6 -/
theorem g3 {n : Nat} {ss : List Sy} (h : Dr n ss) (S : PV) (x9 : Slot) (h11 : anyN x11) : ∀ rest,
    exSs (E 30) (.asg (.name 11) (.lcp [13] (.name 13) .seq [(.call 15 [(.var 14)])] [(.blt .all (.lcp [10] (.name 10) .seq [(.var 15)] [] (.call 16 [(.var 10), (.var 13)])))] (.var 13)) :: rest) (lwS ns S x2 x7 x8 x9 x10 x11 x12 x13 (some (.sh, .int n)) (some (.sh, .tup (encs ss))) x16 x17) =
      exSs (E 30) rest (lwS ns S x2 x7 x8 x9 x10 (some (.own, .lst (goodL n ss))) x12 x13 (some (.sh, .int n)) (some (.sh, .tup (encs ss))) x16 x17) := fun rest => by
  have hn : n ≤ 5 := by have := h.hi; omega
  obtain ⟨fr, h15⟩ := lawrows_spec 29 n (by omega)
  have h15 : E 30 15 [some (.sh, .int n)] = .ok fr (.lst ((rowsN n).map rowW)) [none] := h15
  have l2 : 2 ^ n ≤ 2 ^ 14 := Nat.pow_le_pow_right (by omega) (by omega)
  have key : ev (E 30) false (.lcp [13] (.name 13) .seq [(.call 15 [(.var 14)])] [(.blt .all (.lcp [10] (.name 10) .seq [(.var 15)] [] (.call 16 [(.var 10), (.var 13)])))] (.var 13)) (lwS ns S x2 x7 x8 x9 x10 x11 x12 x13 (some (.sh, .int n)) (some (.sh, .tup (encs ss))) x16 x17) = .ok (true, .lst (goodL n ss)) (lwS ns S x2 x7 x8 x9 x10 x11 x12 x13 (some (.sh, .int n)) (some (.sh, .tup (encs ss))) x16 x17) := by
    rw [lcp_list (C := E 30) (lwS ns S x2 x7 x8 x9 x10 x11 x12 x13 (some (.sh, .int n)) (some (.sh, .tup (encs ss))) x16 x17) (lwS ns S x2 x7 x8 x9 x10 x11 x12 x13 (some (.sh, .int n)) (some (.sh, .tup (encs ss))) x16 x17) (rowsN n) rowW (fun r => if holdB ss r = true then some (rowW r) else none) (fun ρ => ∃ y, ρ = lwS ns S x2 x7 x8 x9 x10 x11 x12 y (some (.sh, .int n)) (some (.sh, .tup (encs ss))) x16 x17)]
    · have e : ∀ l : List (List Int), l.filterMap (fun r => if holdB ss r = true then some (rowW r) else none) = (l.filter (holdB ss)).map rowW := fun l => by
        induction l with
        | nil => rfl
        | cons r l ih =>
          rw [List.filterMap_cons, List.filter_cons, ih]
          cases holdB ss r <;> rfl
      rw [e]
    · rfl
    · simp -implicitDefEqProofs [h15]
    · rintro r hr ρ ⟨x, rfl⟩
      obtain ⟨r1, r2⟩ := rowsN_mem hr
      refine ⟨lwS ns S x2 x7 x8 x9 x10 x11 x12 (some (.sh, rowW r)) (some (.sh, .int n)) (some (.sh, .tup (encs ss))) x16 x17, ?_, _, rfl⟩
      simp -implicitDefEqProofs
      rw [lcp_list (C := E 30) (lwS ns S x2 x7 x8 x9 x10 x11 x12 (some (.sh, rowW r)) (some (.sh, .int n)) (some (.sh, .tup (encs ss))) x16 x17) (lwS ns S x2 x7 x8 x9 x10 x11 x12 (some (.sh, rowW r)) (some (.sh, .int n)) (some (.sh, .tup (encs ss))) x16 x17) ss enc (fun s => some (.bl (val r s))) (fun ρ => ∃ y, ρ = lwS ns S x2 x7 x8 x9 y x11 x12 (some (.sh, rowW r)) (some (.sh, .int n)) (some (.sh, .tup (encs ss))) x16 x17)]
      · rw [fm_some]
        simp -implicitDefEqProofs [allBl_of, holdB]
        split <;> simp -implicitDefEqProofs
      · rfl
      · simp -implicitDefEqProofs [encs_map]
      · rintro s hs ρ ⟨x, rfl⟩
        obtain ⟨q1, q2, q3⟩ := h.ok s hs
        have hv : E 30 16 [some (.sh, enc s), some (.sh, rowW r)] = .ok false (.bl (val r s)) [none, none] := value12 18 r n (by rw [r1]) s (by omega) q1
        simp -implicitDefEqProofs [hv]
      · exact ⟨_, rfl⟩
      · rintro ρ ⟨x, rfl⟩
        simp -implicitDefEqProofs
      · have := h.few; omega
    · exact ⟨_, rfl⟩
    · rintro ρ ⟨x, rfl⟩
      simp -implicitDefEqProofs
    · rw [rowsN_len]; omega
  rw [exSs_cons, exS_asg, key]
  simp -implicitDefEqProofs [setS_any h11]
theorem lets_len {L : Int} {ss : List Sy} (h : Dr L ss) : (lets ss).length < 64 := by
  have := h.size
  have := List.length_filterMap_le let1 (walks ss)
  rw [walks_len] at this
  unfold lets
  omega
abbrev namesL (ss : List Sy) : PV := .tup ((srtI (dedupI (lets ss))).map .int)
/-- row 7 -/
theorem g4 {L : Int} {ss : List Sy} (h : Dr L ss) (S : PV) (x11 x14 x15 : Slot) (h12 : anyN x12) : ∀ rest,
    exSs (E 30) (.asg (.name 12) (.blt .tuple (.sset (.lcp [18] (.name 18) .seq [(.var 9)] [(.cmp .eq (.idx (.var 18) (.cst (.int 0))) (.cst (.str [108, 101, 116, 116, 101, 114])))] (.idx (.var 18) (.cst (.int 1)))))) :: rest) (lwS ns S x2 x7 x8 (some (.own, .lst ((walks ss).map enc))) x10 x11 x12 x13 x14 x15 x16 x17) =
      exSs (E 30) rest (lwS ns S x2 x7 x8 (some (.sh, .lst ((walks ss).map enc))) x10 x11 (some (.sh, namesL ss)) x13 x14 x15 x16 x17) := fun rest => by
  have key : ev (E 30) false (.lcp [18] (.name 18) .seq [(.var 9)] [(.cmp .eq (.idx (.var 18) (.cst (.int 0))) (.cst (.str [108, 101, 116, 116, 101, 114])))] (.idx (.var 18) (.cst (.int 1)))) (lwS ns S x2 x7 x8 (some (.own, .lst ((walks ss).map enc))) x10 x11 x12 x13 x14 x15 x16 x17) = .ok (true, .lst ((lets ss).map .int)) (lwS ns S x2 x7 x8 (some (.sh, .lst ((walks ss).map enc))) x10 x11 x12 x13 x14 x15 x16 x17) := by
    rw [lcp_list (C := E 30) (lwS ns S x2 x7 x8 (some (.sh, .lst ((walks ss).map enc))) x10 x11 x12 x13 x14 x15 x16 x17) (lwS ns S x2 x7 x8 (some (.sh, .lst ((walks ss).map enc))) x10 x11 x12 x13 x14 x15 x16 x17) (walks ss) enc (fun s => (let1 s).map .int) (fun ρ => ∃ y, ρ = [some (.sh, .scr ns), some (.own, S), x2, none, none, none, none, x7, x8, some (.sh, .lst ((walks ss).map enc)), x10, x11, x12, x13, x14, x15, x16, x17, y])]
    · have e : ∀ l : List Sy, l.filterMap (fun s => (let1 s).map PV.int) = (l.filterMap let1).map .int := fun l => by
        induction l with
        | nil => rfl
        | cons r l ih =>
          rw [List.filterMap_cons, List.filterMap_cons, ih]
          cases let1 r <;> rfl
      rw [e]
      rfl
    · rfl
    · simp -implicitDefEqProofs
    · rintro ⟨kd, ch⟩ hs ρ ⟨y, rfl⟩
      refine ⟨[some (.sh, .scr ns), some (.own, S), x2, none, none, none, none, x7, x8, some (.sh, .lst ((walks ss).map enc)), x10, x11, x12, x13, x14, x15, x16, x17, some (.sh, enc (.mk kd ch))], ?_, _, rfl⟩
      cases kd <;> simp -implicitDefEqProofs [enc, encK, let1]
    · exact ⟨_, rfl⟩
    · rintro ρ ⟨y, rfl⟩
      simp -implicitDefEqProofs
    · rw [walks_len]; have := h.size; omega
  have hs : ssetV (.lst ((lets ss).map .int)) = some (true, .lst ((srtI (dedupI (lets ss))).map .int)) := by
    simp only [ssetV, allInt_map, Option.bind_some]
    rw [if_pos (lets_len h)]
  rw [exSs_cons, exS_asg, ev_blt, pk_sset, ev_sset, pk_lcp, key]
  simp -implicitDefEqProofs [hs, setS_any h12]
end
end Cw.Ev
set_option Elab.async false
set_option linter.all false
set_option maxRecDepth 100000
set_option maxHeartbeats 4000000
set_option autoImplicit false
/-! k00, mathematics 12: the law's turn, second half -/
namespace Cw.Ev
open PySem L2

theorem cmp_ne_tup {xs : List PV} (h : tame (.tup xs) = true) (hd : dep (.tup xs) ≤ 64) : cmpV .ne (.tup xs) (.tup xs) = some false := by
  have e : cmpV .ne (.tup xs) (.tup xs) = if eqOk (.tup xs) && eqOk (.tup xs) then some (!eqV' (.tup xs) (.tup xs)) else none := rfl
  rw [e, eqOk_of h hd, eqV_refl h]
  rfl
theorem cmp_ne_lst {xs : List PV} (h : tame (.lst xs) = true) (hd : dep (.lst xs) ≤ 64) : cmpV .ne (.lst xs) (.lst xs) = some false := by
  have e : cmpV .ne (.lst xs) (.lst xs) = if eqOk (.lst xs) && eqOk (.lst xs) then some (!eqV' (.lst xs) (.lst xs)) else none := rfl
  rw [e, eqOk_of h hd, eqV_refl h]
  rfl
theorem row_tame {r : List Int} (h : ∀ x ∈ r, x = 0 ∨ x = 1) : tame (rowW r) = true ∧ dep (rowW r) ≤ 1 ∧ mass (rowW r) ≤ r.length * 65 := by
  refine ⟨?_, ?_, ?_⟩
  · show tames (r.map .int) = true
    refine tames_mem fun x hx => ?_
    obtain ⟨i, hi, rfl⟩ := List.mem_map.mp hx
    show tI i = true
    unfold tI
    rw [decide_eq_true_eq]
    have := h i hi
    omega
  · show deps (r.map .int) + 1 ≤ 1
    have : deps (r.map PV.int) ≤ 0 := deps_mem fun x hx => by
      obtain ⟨i, _, rfl⟩ := List.mem_map.mp hx
      exact Nat.le_refl _
    omega
  · show masses (r.map .int) ≤ _
    have := masses_mem (n := 64) (xs := r.map PV.int) fun x hx => by
      obtain ⟨i, _, rfl⟩ := List.mem_map.mp hx
      exact Nat.le_refl _
    rwa [List.length_map] at this
theorem good_tame {n : Nat} (hn : n ≤ 5) (ss : List Sy) : tame (.lst (goodL n ss)) = true ∧ dep (.lst (goodL n ss)) ≤ 2 ∧ mass (.lst (goodL n ss)) ≤ 20000 := by
  have mem : ∀ x ∈ goodL n ss, ∃ r ∈ rowsN n, x = rowW r := fun x hx => by
    obtain ⟨r, hr, rfl⟩ := List.mem_map.mp hx
    exact ⟨r, (List.mem_filter.mp hr).1, rfl⟩
  refine ⟨?_, ?_, ?_⟩
  · show tames (goodL n ss) = true
    refine tames_mem fun x hx => ?_
    obtain ⟨r, hr, rfl⟩ := mem x hx
    exact (row_tame (rowsN_mem hr).2).1
  · show deps (goodL n ss) + 1 ≤ 2
    have : deps (goodL n ss) ≤ 1 := deps_mem fun x hx => by
      obtain ⟨r, hr, rfl⟩ := mem x hx
      exact (row_tame (rowsN_mem hr).2).2.1
    omega
  · show masses (goodL n ss) ≤ _
    have h1 := masses_mem (n := 325) (xs := goodL n ss) fun x hx => by
      obtain ⟨r, hr, rfl⟩ := mem x hx
      have q := (row_tame (rowsN_mem hr).2).2.2
      have := (rowsN_mem hr).1
      have : r.length * 65 ≤ 5 * 65 := Nat.mul_le_mul_right _ (by omega)
      omega
    have h2 : (goodL n ss).length ≤ 32 := by
      have := List.length_filter_le (holdB ss) (rowsN n)
      rw [rowsN_len] at this
      have : 2 ^ n ≤ 2 ^ 5 := Nat.pow_le_pow_right (by omega) hn
      rw [List.length_map]
      omega
    have : (goodL n ss).length * (325 + 1) ≤ 32 * (325 + 1) := Nat.mul_le_mul_right _ h2
    omega
mutual
theorem lets_mem1 {L : Int} : ∀ (s : Sy), fine L s → ∀ i ∈ (walk s).filterMap let1, 1 ≤ i ∧ i ≤ L
  | .mk kd ch, h, i, hi => by
    rw [fine] at h
    rw [walk, List.filterMap_cons] at hi
    have hc := lets_mem2 ch h.2.2 i
    cases kd with
    | letter j =>
      obtain ⟨rfl, h4, h5⟩ := h.1
      simp -implicitDefEqProofs [let1, walks] at hi
      omega
    | _ => exact hc (by simpa [let1] using hi)
theorem lets_mem2 {L : Int} : ∀ (l : List Sy), fines L l → ∀ i ∈ (walks l).filterMap let1, 1 ≤ i ∧ i ≤ L
  | [], _, i, hi => by simp -implicitDefEqProofs [walks] at hi
  | s :: r, h, i, hi => by
    rw [walks, List.filterMap_append, List.mem_append] at hi
    rcases hi with hi | hi
    · exact lets_mem1 s h.1 i hi
    · exact lets_mem2 r h.2 i hi
end
theorem names_tame {L : Int} {ss : List Sy} (h : Dr L ss) : tame (namesL ss) = true ∧ dep (namesL ss) ≤ 1 ∧ mass (namesL ss) ≤ 5000 := by
  have mem : ∀ i ∈ srtI (dedupI (lets ss)), 1 ≤ i ∧ i ≤ L := fun i hi => by
    have := (srtI_perm _).mem_iff.mp hi
    rw [dedup_mem] at this
    exact lets_mem2 ss (fines_of fun s hs => (h.ok s hs).1) i this
  have ded : ∀ l : List Int, (dedupI l).length ≤ l.length := fun l => by
    induction l with
    | nil => exact Nat.le_refl _
    | cons a l ih =>
      unfold dedupI
      split
      · simp -implicitDefEqProofs; omega
      · simp -implicitDefEqProofs; exact ih
  have len : (srtI (dedupI (lets ss))).length < 64 := by
    rw [(srtI_perm _).length_eq]
    exact Nat.lt_of_le_of_lt (ded _) (lets_len h)
  refine ⟨?_, ?_, ?_⟩
  · show tames ((srtI (dedupI (lets ss))).map .int) = true
    refine tames_mem fun x hx => ?_
    obtain ⟨i, hi, rfl⟩ := List.mem_map.mp hx
    have := mem i hi
    have := h.hi
    show tI i = true
    unfold tI
    rw [decide_eq_true_eq]
    omega
  · show deps ((srtI (dedupI (lets ss))).map .int) + 1 ≤ 1
    have : deps ((srtI (dedupI (lets ss))).map PV.int) ≤ 0 := deps_mem fun x hx => by
      obtain ⟨i, _, rfl⟩ := List.mem_map.mp hx
      exact Nat.le_refl _
    omega
  · show masses ((srtI (dedupI (lets ss))).map .int) ≤ _
    have := masses_mem (n := 64) (xs := (srtI (dedupI (lets ss))).map PV.int) fun x hx => by
      obtain ⟨i, _, rfl⟩ := List.mem_map.mp hx
      exact Nat.le_refl _
    rw [List.length_map] at this
    have : (srtI (dedupI (lets ss))).length * (64 + 1) ≤ 64 * (64 + 1) := Nat.mul_le_mul_right _ (by omega)
    omega
abbrev toldL (n : Nat) (ss : List Sy) : List PV := [.tup [.str sTold, .non], .tup [.str sTold, .lst (goodL n ss)], .tup [.str sTold, namesL ss], .tup [.str sTold, .int (szsL ss)]]
theorem told_tame {n : Nat} {ss : List Sy} (h : Dr n ss) : tame (.lst (toldL n ss)) = true ∧ dep (.lst (toldL n ss)) ≤ 10 ∧ mass (.lst (toldL n ss)) ≤ 100000 := by
  obtain ⟨a1, a2, a3⟩ := good_tame (n := n) (by have := h.hi; omega) ss
  obtain ⟨b1, b2, b3⟩ := names_tame h
  have hz : tI (szsL ss) = true := by unfold tI; rw [decide_eq_true_eq]; have := h.size; omega
  simp only [tame, dep, mass] at a1 a2 a3 b1 b2 b3
  simp -implicitDefEqProofs [tame, tames, dep, deps, mass, masses, a1, b1, hz]
  omega
theorem told_all {n : Nat} {ss : List Sy} (h : Dr n ss) (j : Nat) (hj : j < 4) : ∃ d, (toldL n ss)[j]? = some d ∧ E 30 19 [some (.sh, .int j), some (.sh, thV n (encs ss)), some (.sh, .int 0)] = .ok false d [none, none, none] := by
  match j, hj with
  | 0, _ => exact ⟨_, rfl, told_ok 29 0 4 _ _ _ false rfl (theory_ok 26 n ss h.th)⟩
  | 1, _ => exact ⟨_, rfl, told_ok 29 1 8 _ _ _ true rfl (rowsth_ok 15 n ss h.th (by have := h.hi; omega))⟩
  | 2, _ => exact ⟨_, rfl, told_ok 29 2 9 _ _ _ false rfl (letters_ok 25 n ss h.th (by have := h.size; omega))⟩
  | 3, _ => exact ⟨_, rfl, told_ok 29 3 10 _ _ _ false rfl (size_ok 25 n ss h.th (by have := h.size; omega))⟩
section
variable {ns nums : List Int} {x2 x7 x8 x9 x10 x11 x12 x13 x14 x15 x16 x17 : Slot}
/-- row 8 -/
theorem g5 {n : Nat} {ss : List Sy} (h : Dr n ss) (S : PV) : ∀ rest,
    exSs (E 30) (.ifs (.not (.call 17 [(.lcp [4] (.name 4) .range1 [(.cst (.int 4))] [] (.call 19 [(.var 4), (.var 7), (.cst (.int 0))])), (.lst [(.tup [(.cst (.str [116, 111, 108, 100])), (.cst .non)]), (.tup [(.cst (.str [116, 111, 108, 100])), (.var 11)]), (.tup [(.cst (.str [116, 111, 108, 100])), (.var 12)]), (.tup [(.cst (.str [116, 111, 108, 100])), (.blt .len (.var 9))])])])) [.ret (.cst (.bl false))] [] :: rest)
      (lwS ns S x2 (some (.sh, thV n (encs ss))) x8 (some (.sh, .lst ((walks ss).map enc))) x10 (some (.own, .lst (goodL n ss))) (some (.sh, namesL ss)) x13 x14 x15 x16 x17) =
      exSs (E 30) rest (lwS ns S x2 (some (.sh, thV n (encs ss))) x8 (some (.sh, .lst ((walks ss).map enc))) x10 (some (.sh, .lst (goodL n ss))) (some (.sh, namesL ss)) x13 x14 x15 x16 x17) := fun rest => by
  have key : ev (E 30) false (.lcp [4] (.name 4) .range1 [(.cst (.int 4))] [] (.call 19 [(.var 4), (.var 7), (.cst (.int 0))])) (lwS ns S x2 (some (.sh, thV n (encs ss))) x8 (some (.sh, .lst ((walks ss).map enc))) x10 (some (.own, .lst (goodL n ss))) (some (.sh, namesL ss)) x13 x14 x15 x16 x17) = .ok (true, .lst (toldL n ss)) (lwS ns S x2 (some (.sh, thV n (encs ss))) x8 (some (.sh, .lst ((walks ss).map enc))) x10 (some (.own, .lst (goodL n ss))) (some (.sh, namesL ss)) x13 x14 x15 x16 x17) := by
    rw [lcp_list (C := E 30) (lwS ns S x2 (some (.sh, thV n (encs ss))) x8 (some (.sh, .lst ((walks ss).map enc))) x10 (some (.own, .lst (goodL n ss))) (some (.sh, namesL ss)) x13 x14 x15 x16 x17) (lwS ns S x2 (some (.sh, thV n (encs ss))) x8 (some (.sh, .lst ((walks ss).map enc))) x10 (some (.own, .lst (goodL n ss))) (some (.sh, namesL ss)) x13 x14 x15 x16 x17) (List.range 4) (fun j => .int (j : Int)) (fun j => (toldL n ss)[j]?)
      (fun ρ => ∃ y, ρ = [some (.sh, .scr ns), some (.own, S), x2, none, y, none, none, (some (.sh, thV n (encs ss))), x8, (some (.sh, .lst ((walks ss).map enc))), x10, (some (.own, .lst (goodL n ss))), (some (.sh, namesL ss)), x13, x14, x15, x16, x17, none])]
    · rfl
    · rfl
    · simp -implicitDefEqProofs [itV_range1 4 (by omega)]
    · rintro j hj ρ ⟨y, rfl⟩
      obtain ⟨d, e1, e2⟩ := told_all h j (List.mem_range.mp hj)
      refine ⟨[some (.sh, .scr ns), some (.own, S), x2, none, some (.sh, .int j), none, none, (some (.sh, thV n (encs ss))), x8, (some (.sh, .lst ((walks ss).map enc))), x10, (some (.own, .lst (goodL n ss))), (some (.sh, namesL ss)), x13, x14, x15, x16, x17, none], ?_, _, rfl⟩
      rw [e1]
      simp -implicitDefEqProofs [e2]
    · exact ⟨_, rfl⟩
    · rintro ρ ⟨y, rfl⟩
      simp -implicitDefEqProofs
    · simp -implicitDefEqProofs
  obtain ⟨t1, t2, t3⟩ := told_tame h
  have hs : E 30 17 [some (.sh, .lst (toldL n ss)), some (.sh, .lst (toldL n ss))] = .ok false (.bl true) [none, none] := same_spec 29 _ t1 (by omega) (by omega)
  rw [exSs_cons, exS_ifs, ev_not_t, ev_call, evA_cons, tk_lcp, key]
  simp only [toldL] at hs
  simp -implicitDefEqProofs [walks_len, hs]
theorem in_good {n : Nat} (hn : n ≤ 5) (ss : List Sy) {r : List Int} (hr : r ∈ rowsN n) : cmpV .isin (rowW r) (.lst (goodL n ss)) = some (holdB ss r) := by
  obtain ⟨t1, t2, _⟩ := good_tame hn ss
  obtain ⟨r1, r2, _⟩ := row_tame (rowsN_mem hr).2
  rw [cmp_in_lst, isScal_tup, if_neg (by simp -implicitDefEqProofs), eqOk_of r1 (by omega), eqOk_of t1 (by omega), Bool.and_self, if_pos rfl]
  congr 1
  have e : ∀ a : List Int, eqV' (rowW a) (rowW r) = decide (a = r) := fun a => eqV_row a r
  rw [Bool.eq_iff_iff, List.any_eq_true]
  constructor
  · rintro ⟨x, hx, q⟩
    obtain ⟨a, ha, rfl⟩ := List.mem_map.mp hx
    rw [e, decide_eq_true_eq] at q
    subst q
    exact (List.mem_filter.mp ha).2
  · intro q
    exact ⟨rowW r, List.mem_map.mpr ⟨r, List.mem_filter.mpr ⟨hr, q⟩, rfl⟩, by rw [e]; simp -implicitDefEqProofs⟩
theorem row01 {r : List Int} (h : ∀ x ∈ r, x = 0 ∨ x = 1) : r.all (fun x => 0 == x || 1 == x) = true := by
  rw [List.all_eq_true]
  intro x hx
  rcases h x hx with rfl | rfl <;> rfl
/-- row 9 -/
theorem g6 {n : Nat} {ss : List Sy} (h : Dr n ss) (S : PV) (h13 : anyN x13) : ∃ y, anyN y ∧ ∀ rest,
    exSs (E 30) (.for_ (.name 13) .seq [(.call 15 [(.var 14)])] [.ifs (.cmp .ne (.call 19 [(.cst (.int 4)), (.var 7), (.var 13)]) (.tup [(.cst (.str [116, 111, 108, 100])), (.cmp .isin (.var 13) (.var 11))])) [.ret (.cst (.bl false))] []] :: rest)
      (lwS ns S x2 (some (.sh, thV n (encs ss))) x8 x9 x10 (some (.sh, .lst (goodL n ss))) x12 x13 (some (.sh, .int n)) x15 x16 x17) =
      exSs (E 30) rest (lwS ns S x2 (some (.sh, thV n (encs ss))) x8 x9 x10 (some (.sh, .lst (goodL n ss))) x12 y (some (.sh, .int n)) x15 x16 x17) := by
  have hn : n ≤ 5 := by have := h.hi; omega
  obtain ⟨fr, h15⟩ := lawrows_spec 29 n (by omega)
  have h15 : E 30 15 [some (.sh, .int n)] = .ok fr (.lst ((rowsN n).map rowW)) [none] := h15
  obtain ⟨ρ', e, y, rfl, hy⟩ := for_run (C := E 30) (tg := .name 13) (ik := .seq) (its := [(.call 15 [(.var 14)])]) (b := [.ifs (.cmp .ne (.call 19 [(.cst (.int 4)), (.var 7), (.var 13)]) (.tup [(.cst (.str [116, 111, 108, 100])), (.cmp .isin (.var 13) (.var 11))])) [.ret (.cst (.bl false))] []]) (ρ := lwS ns S x2 (some (.sh, thV n (encs ss))) x8 x9 x10 (some (.sh, .lst (goodL n ss))) x12 x13 (some (.sh, .int n)) x15 x16 x17)
    (lwS ns S x2 (some (.sh, thV n (encs ss))) x8 x9 x10 (some (.sh, .lst (goodL n ss))) x12 x13 (some (.sh, .int n)) x15 x16 x17) ((rowsN n).map rowW) (fun i ρ => ∃ y, ρ = lwS ns S x2 (some (.sh, thV n (encs ss))) x8 x9 x10 (some (.sh, .lst (goodL n ss))) x12 y (some (.sh, .int n)) x15 x16 x17 ∧ anyN y) rfl (by simp -implicitDefEqProofs [h15]) (fun i x ρ hi hP => by
      obtain ⟨y, rfl, hy⟩ := hP
      obtain ⟨r, hr, rfl⟩ := map_at hi
      have hm := List.mem_of_getElem? hr
      obtain ⟨r1, r2⟩ := rowsN_mem hm
      have ht : E 30 19 [some (.sh, .int 4), some (.sh, thV n (encs ss)), some (.sh, rowW r)] = .ok false (.tup [.str sTold, .bl (holdB ss r)]) [none, none, none] := told4_ok 29 _ _ _ false (holds_ok 16 n ss r h.th (by rw [r1]) (row01 r2))
      have hi := in_good hn ss hm
      have hc := cmp_ne_tup (xs := [.str sTold, .bl (holdB ss r)]) (by simp -implicitDefEqProofs [tame, tames]) (by simp -implicitDefEqProofs [dep, deps])
      refine ⟨lwS ns S x2 (some (.sh, thV n (encs ss))) x8 x9 x10 (some (.sh, .lst (goodL n ss))) x12 (some (.sh, rowW r)) (some (.sh, .int n)) x15 x16 x17, ?_, _, rfl, .sh _⟩
      rw [bindT_name]
      simp -implicitDefEqProofs [setS_any hy, ht, -cmp_in_lst, hi, hc]) ⟨_, rfl, h13⟩
  refine ⟨y, hy, fun rest => ?_⟩
  rw [exSs_cons, e]
  rfl
/-- no row -/
theorem norow {n : Nat} {ss : List Sy} (h : Dr n ss) (r : List Int) (hl : r.length ≤ 100) (hb : (((r.length : Int) == (n : Int)) && r.all fun x => 0 == x || 1 == x) = false) : E 30 19 [some (.sh, .int 4), some (.sh, thV n (encs ss)), some (.sh, rowW r)] = .ok false (errStr 0) [none, none, none] :=
  told4_exc 29 0 _ _ (by omega) (holds_norow 16 n ss r h.th (by omega) hb)
abbrev oddRows (n : Nat) : List (List Int) := [List.replicate n 0 ++ [0], if n = 0 then [0] else 2 :: List.replicate (n - 1) 0, List.replicate (max 1 n) (-1)]
theorem odd_rows {n : Nat} {ss : List Sy} (h : Dr n ss) : ∀ r ∈ oddRows n, E 30 19 [some (.sh, .int 4), some (.sh, thV n (encs ss)), some (.sh, rowW r)] = .ok false (errStr 0) [none, none, none] := by
  have hn : n ≤ 5 := by have := h.hi; omega
  intro r hr
  simp only [oddRows, List.mem_cons, List.not_mem_nil, or_false] at hr
  rcases hr with rfl | rfl | rfl
  · refine norow h _ (by simp -implicitDefEqProofs; omega) ?_
    have e : (((List.replicate n (0 : Int) ++ [0]).length : Int) == (n : Int)) = false := by
      rw [beq_eq_false_iff_ne]
      simp -implicitDefEqProofs
      omega
    rw [e]
    rfl
  · by_cases c : n = 0
    · subst c
      exact norow h _ (by simp -implicitDefEqProofs) (by simp -implicitDefEqProofs)
    · rw [if_neg c]
      refine norow h _ (by simp -implicitDefEqProofs; omega) ?_
      simp -implicitDefEqProofs
  · refine norow h _ (by simp -implicitDefEqProofs; omega) ?_
    have e : (List.replicate (max 1 n) (-1 : Int)).all (fun x => 0 == x || 1 == x) = false := by
      obtain ⟨m, hm⟩ : ∃ m, max 1 n = m + 1 := ⟨max 1 n - 1, by omega⟩
      rw [hm, List.replicate_succ]
      simp -implicitDefEqProofs
    rw [e, Bool.and_false]
abbrev g7E : IE := .lcp [18] (.name 18) .seq [(.lst [(.bin .add (.var 13) (.tup [(.cst (.int 0))])), (.ite (.cmp .gt (.var 14) (.cst (.int 0))) (.bin .add (.tup [(.cst (.int 2))]) (.slc (.var 13) (.cst (.int 1)) (.cst .non))) (.tup [(.cst (.int 0))])), (.bin .mul (.tup [(.neg (.cst (.int 1)))]) (.bltn .max [(.cst (.int 1)), (.var 14)]))])] [] (.call 19 [(.cst (.int 4)), (.var 7), (.var 18)])
theorem flat_rep (m : Nat) (x : PV) : (List.replicate m [x]).flatten = List.replicate m x := by
  induction m with
  | zero => rfl
  | succ m ih => rw [List.replicate_succ, List.flatten_cons, ih]; rfl
/-- rows 10, 11 -/
theorem g7 {n : Nat} {ss : List Sy} (h : Dr n ss) (S : PV) (h13 : anyN x13) : ∀ rest,
    exSs (E 30) (.asg (.name 13) (.bin .mul (.tup [(.cst (.int 0))]) (.var 14)) :: .ifs (.cmp .ne g7E (.bin .mul (.lst [(.cst (.str [114, 101, 102, 117, 115, 101, 100]))]) (.cst (.int 3)))) [.ret (.cst (.bl false))] [] :: rest)
      (lwS ns S x2 (some (.sh, thV n (encs ss))) x8 x9 x10 x11 x12 x13 (some (.sh, .int n)) x15 x16 x17) =
      exSs (E 30) rest (lwS ns S x2 (some (.sh, thV n (encs ss))) x8 x9 x10 x11 x12 (some (.sh, rowW (List.replicate n 0))) (some (.sh, .int n)) x15 x16 x17) := fun rest => by
  have hn : n ≤ 5 := by have := h.hi; omega
  have m1 := binV_mul_tup [.int 0] n (by omega) (by simp -implicitDefEqProofs) (by simp -implicitDefEqProofs)
  rw [Int.toNat_natCast, flat_rep] at m1
  have m3 := binV_mul_lst [.str [114, 101, 102, 117, 115, 101, 100]] 3 (by omega) (by simp -implicitDefEqProofs)
  have mm : binV .mul (.tup [.int (-1)]) (.int (if (n : Int) > 1 then (n : Int) else 1)) = some (false, .tup (List.replicate (max 1 n) (.int (-1)))) := by
    have ej : (if (n : Int) > 1 then (n : Int) else 1) = ((max 1 n : Nat) : Int) := by split <;> omega
    rw [ej, binV_mul_tup _ _ (by omega) (by simp -implicitDefEqProofs) (by simp -implicitDefEqProofs), flat_rep, Int.toNat_natCast]
  have key : ev (E 30) false g7E (lwS ns S x2 (some (.sh, thV n (encs ss))) x8 x9 x10 x11 x12 (some (.sh, rowW (List.replicate n 0))) (some (.sh, .int n)) x15 x16 x17) = .ok (true, .lst [errStr 0, errStr 0, errStr 0]) (lwS ns S x2 (some (.sh, thV n (encs ss))) x8 x9 x10 x11 x12 (some (.sh, rowW (List.replicate n 0))) (some (.sh, .int n)) x15 x16 x17) := by
    rw [lcp_list (C := E 30) (lwS ns S x2 (some (.sh, thV n (encs ss))) x8 x9 x10 x11 x12 (some (.sh, rowW (List.replicate n 0))) (some (.sh, .int n)) x15 x16 x17) (lwS ns S x2 (some (.sh, thV n (encs ss))) x8 x9 x10 x11 x12 (some (.sh, rowW (List.replicate n 0))) (some (.sh, .int n)) x15 x16 x17) (oddRows n) rowW (fun _ => some (errStr 0)) (fun ρ => ∃ y, ρ = [some (.sh, .scr ns), some (.own, S), x2, none, none, none, none, (some (.sh, thV n (encs ss))), x8, x9, x10, x11, x12, (some (.sh, rowW (List.replicate n 0))), (some (.sh, .int n)), x15, x16, x17, y])]
    · rfl
    · rfl
    · have lo : n + 1 ≤ 16777216 := by omega
      cases n with
      | zero =>
        simp -implicitDefEqProofs at mm
        simp -implicitDefEqProofs [mm]
      | succ m =>
        have lo2 : m + 1 + 1 ≤ 16777216 := by omega
        have lo3 : 1 + m ≤ 16777216 := by omega
        have p : (0 : Int) < (m : Int) + 1 := by omega
        simp -implicitDefEqProofs at mm
        simp -implicitDefEqProofs [mm, List.replicate_succ, lo, lo2, lo3, p, rowW]
    · rintro r hr ρ ⟨y, rfl⟩
      have q := odd_rows h r hr
      refine ⟨[some (.sh, .scr ns), some (.own, S), x2, none, none, none, none, (some (.sh, thV n (encs ss))), x8, x9, x10, x11, x12, (some (.sh, rowW (List.replicate n 0))), (some (.sh, .int n)), x15, x16, x17, some (.sh, rowW r)], ?_, _, rfl⟩
      simp -implicitDefEqProofs [q]
    · exact ⟨_, rfl⟩
    · rintro ρ ⟨y, rfl⟩
      simp -implicitDefEqProofs
    · simp -implicitDefEqProofs
  have hc := cmp_ne_lst (xs := [errStr 0, errStr 0, errStr 0]) (by simp -implicitDefEqProofs [tame, tames, errStr]) (by simp -implicitDefEqProofs [dep, deps, errStr])
  have e1 : exS (E 30) (.asg (.name 13) (.bin .mul (.tup [(.cst (.int 0))]) (.var 14))) (lwS ns S x2 (some (.sh, thV n (encs ss))) x8 x9 x10 x11 x12 x13 (some (.sh, .int n)) x15 x16 x17) = .ok .nx (lwS ns S x2 (some (.sh, thV n (encs ss))) x8 x9 x10 x11 x12 (some (.sh, rowW (List.replicate n 0))) (some (.sh, .int n)) x15 x16 x17) := by
    simp -implicitDefEqProofs [m1, setS_any h13]
  rw [exSs_cons, e1, R.bind_ok, contS_nx, exSs_cons, exS_ifs, ev_cmp, pk_lcp, key]
  simp -implicitDefEqProofs [m3, List.replicate]
  simp -implicitDefEqProofs [errStr] at hc
  simp -implicitDefEqProofs [errStr, hc]
/-- row 12 -/
theorem g8 (N : Nums nums) {n : Nat} {ss : List Sy} (h : Dr n ss) (c : Int) (hc : 0 ≤ c ∧ c < 2 ^ 59) (h16 : anyN x16) (h17 : anyN x17) : ∃ (t : PV) (q : Nat), q < 5 ∧ (∀ k, E (k + 3) 4 [some (.sh, t)] = .exc q .non) ∧ ∀ rest,
    exSs (E 30) (.asg (.tup [(.name 16), (.name 17)]) (.call 18 [(.var 1), (.var 7)]) :: rest) (lwS ns (stV nums c) x2 (some (.sh, thV n (encs ss))) x8 x9 x10 x11 x12 x13 x14 x15 x16 x17) =
      exSs (E 30) rest (lwS ns (stV nums (c + 1)) x2 (some (.sh, thV n (encs ss))) x8 x9 x10 x11 x12 x13 x14 x15 (some (.sh, t)) (some (.sh, errStr q))) := by
  obtain ⟨t, q, a1, a2, a3⟩ := odd_spec N 28 c n ss h hc
  have a3 : E 30 18 [some (.par, stV nums c), some (.sh, thV n (encs ss))] = .ok false (.tup [t, errStr q]) [some (.par, stV nums (c + 1)), none] := a3
  refine ⟨t, q, a1, a2, fun rest => ?_⟩
  simp -implicitDefEqProofs [a3, setS_any h16, setS_any h17]
theorem odd_told (t : PV) (q : Nat) (hq : q < 5) (h : ∀ k, E (k + 3) 4 [some (.sh, t)] = .exc q .non) (j : Nat) (hj : j < 5) : E 30 19 [some (.sh, .int j), some (.sh, t), some (.sh, .tup [])] = .ok false (errStr q) [none, none, none] := by
  obtain ⟨p8, p9, p10, p7⟩ := pass_exc 25 t q (h 25)
  match j, hj with
  | 0, _ => exact told_exc 29 0 4 q _ _ hq rfl (h 26)
  | 1, _ => exact told_exc 29 1 8 q _ _ hq rfl p8
  | 2, _ => exact told_exc 29 2 9 q _ _ hq rfl p9
  | 3, _ => exact told_exc 29 3 10 q _ _ hq rfl p10
  | 4, _ => exact told4_exc 29 q _ _ hq (p7 _)
abbrev g9E : IE := .lcp [4] (.name 4) .range1 [(.cst (.int 5))] [] (.call 19 [(.var 4), (.var 16), (.tup [])])
theorem err_tame (q : Nat) : tame (errStr q) = true ∧ dep (errStr q) = 0 := by
  unfold errStr
  split <;> exact ⟨rfl, rfl⟩
/-- row 13 -/
theorem g9 {L : Int} {ss : List Sy} (h : Dr L ss) (S t : PV) (q : Nat) (hq : q < 5) (ht : ∀ k, E (k + 3) 4 [some (.sh, t)] = .exc q .non) : ∀ rest,
    exSs (E 30) (.ifs (.or (.cmp .ne g9E (.bin .mul (.lst [(.var 17)]) (.cst (.int 5)))) (.cmp .ne (.blt .repr (.var 7)) (.var 8))) [.ret (.cst (.bl false))] [] :: rest)
      (lwS ns S x2 (some (.sh, thV L (encs ss))) (some (.sh, kept L ss)) x9 x10 x11 x12 x13 x14 x15 (some (.sh, t)) (some (.sh, errStr q))) =
      exSs (E 30) rest (lwS ns S x2 (some (.sh, thV L (encs ss))) (some (.sh, kept L ss)) x9 x10 x11 x12 x13 x14 x15 (some (.sh, t)) (some (.sh, errStr q))) := fun rest => by
  have m5 := binV_mul_lst [errStr q] 5 (by omega) (by simp -implicitDefEqProofs)
  have hr := th_repr h
  obtain ⟨e1, e2⟩ := err_tame q
  have hc := cmp_ne_lst (xs := [errStr q, errStr q, errStr q, errStr q, errStr q]) (by simp -implicitDefEqProofs [tame, tames, e1]) (by simp -implicitDefEqProofs [dep, deps, e2])
  have key : ev (E 30) false g9E (lwS ns S x2 (some (.sh, thV L (encs ss))) (some (.sh, kept L ss)) x9 x10 x11 x12 x13 x14 x15 (some (.sh, t)) (some (.sh, errStr q))) = .ok (true, .lst [errStr q, errStr q, errStr q, errStr q, errStr q]) (lwS ns S x2 (some (.sh, thV L (encs ss))) (some (.sh, kept L ss)) x9 x10 x11 x12 x13 x14 x15 (some (.sh, t)) (some (.sh, errStr q))) := by
    rw [lcp_list (C := E 30) (lwS ns S x2 (some (.sh, thV L (encs ss))) (some (.sh, kept L ss)) x9 x10 x11 x12 x13 x14 x15 (some (.sh, t)) (some (.sh, errStr q))) (lwS ns S x2 (some (.sh, thV L (encs ss))) (some (.sh, kept L ss)) x9 x10 x11 x12 x13 x14 x15 (some (.sh, t)) (some (.sh, errStr q))) (List.range 5) (fun j => .int (j : Int)) (fun _ => some (errStr q))
      (fun ρ => ∃ y, ρ = [some (.sh, .scr ns), some (.own, S), x2, none, y, none, none, some (.sh, thV L (encs ss)), some (.sh, kept L ss), x9, x10, x11, x12, x13, x14, x15, some (.sh, t), some (.sh, errStr q), none])]
    · rfl
    · rfl
    · simp -implicitDefEqProofs [itV_range1 5 (by omega)]
    · rintro j hj ρ ⟨y, rfl⟩
      have := odd_told t q hq ht j (List.mem_range.mp hj)
      refine ⟨[some (.sh, .scr ns), some (.own, S), x2, none, some (.sh, .int j), none, none, some (.sh, thV L (encs ss)), some (.sh, kept L ss), x9, x10, x11, x12, x13, x14, x15, some (.sh, t), some (.sh, errStr q), none], ?_, _, rfl⟩
      simp -implicitDefEqProofs [this]
    · exact ⟨_, rfl⟩
    · rintro ρ ⟨y, rfl⟩
      simp -implicitDefEqProofs
    · simp -implicitDefEqProofs
  have m5' : binV .mul (.lst [errStr q]) (.int 5) = some (true, .lst [errStr q, errStr q, errStr q, errStr q, errStr q]) := m5
  rw [exSs_cons, exS_ifs, ev_or, ev_cmp, pk_lcp, key]
  simp -implicitDefEqProofs [m5', hc, hr, kept]
end
end Cw.Ev
set_option Elab.async false
set_option linter.all false
set_option maxRecDepth 100000
set_option maxHeartbeats 4000000
set_option autoImplicit false
/-! k00, mathematics 13: the law -/
namespace Cw.Ev
open PySem L2

def tB : List IS := match b_law with
  | [_, .for_ _ _ _ b, _, _, _, _, _] => b
  | _ => []
theorem turn_ok {ns nums : List Int} (N : Nums nums) (c : Int) (hc : 0 ≤ c ∧ c + 500 < 2 ^ 59) (x2 : Slot) {x7 x8 x9 x10 x11 x12 x13 x14 x15 x16 x17 : Slot} (h7 : anyN x7) (h8 : anyN x8) (h9 : anyN x9) (h10 : anyN x10) (h11 : anyN x11) (h12 : anyN x12) (h13 : anyN x13) (h14 : anyN x14) (h15 : anyN x15) (h16 : anyN x16) (h17 : anyN x17) :
    ∃ (c' : Int) (y7 y8 y9 y10 y11 y12 y13 y14 y15 y16 y17 : Slot), c ≤ c' ∧ c' ≤ c + 401 ∧ anyN y7 ∧ anyN y8 ∧ anyN y9 ∧ anyN y10 ∧ anyN y11 ∧ anyN y12 ∧ anyN y13 ∧ anyN y14 ∧ anyN y15 ∧ anyN y16 ∧ anyN y17 ∧
      exSs (E 30) tB (lwS ns (stV nums c) x2 x7 x8 x9 x10 x11 x12 x13 x14 x15 x16 x17) = .ok .nx (lwS ns (stV nums c') x2 y7 y8 y9 y10 y11 y12 y13 y14 y15 y16 y17) := by
  obtain ⟨L, ss, c1, a1, a2, hD, e1⟩ := g1 (ns := ns) (x2 := x2) (x9 := x9) (x10 := x10) (x11 := x11) (x12 := x12) (x13 := x13) (x16 := x16) (x17 := x17) N c (by omega) h7 h8 h14 h15
  obtain ⟨n, rfl⟩ : ∃ n : Nat, L = (n : Int) := ⟨L.toNat, by have := hD.lo; omega⟩
  obtain ⟨y10, hy10, e2⟩ := g2 (ns := ns) (x2 := x2) (x7 := some (.sh, thV n (encs ss))) (x8 := some (.sh, kept n ss)) (x11 := x11) (x12 := x12) (x13 := x13) (x16 := x16) (x17 := x17) hD (stV nums c1) h9 h10 (some (.sh, .int n))
  have e3 := g3 (ns := ns) (x2 := x2) (x7 := some (.sh, thV n (encs ss))) (x8 := some (.sh, kept n ss)) (x10 := y10) (x12 := x12) (x13 := x13) (x16 := x16) (x17 := x17) hD (stV nums c1) (some (.own, .lst ((walks ss).map enc))) h11
  have e4 := g4 (ns := ns) (x2 := x2) (x7 := some (.sh, thV n (encs ss))) (x8 := some (.sh, kept n ss)) (x10 := y10) (x13 := x13) (x16 := x16) (x17 := x17) hD (stV nums c1) (some (.own, .lst (goodL n ss))) (some (.sh, .int n)) (some (.sh, .tup (encs ss))) h12
  have e5 := g5 (ns := ns) (x2 := x2) (x8 := some (.sh, kept n ss)) (x10 := y10) (x13 := x13) (x14 := some (.sh, .int n)) (x15 := some (.sh, .tup (encs ss))) (x16 := x16) (x17 := x17) hD (stV nums c1)
  obtain ⟨y13, hy13, e6⟩ := g6 (ns := ns) (x2 := x2) (x8 := some (.sh, kept n ss)) (x9 := some (.sh, .lst ((walks ss).map enc))) (x10 := y10) (x12 := some (.sh, namesL ss)) (x15 := some (.sh, .tup (encs ss))) (x16 := x16) (x17 := x17) hD (stV nums c1) h13
  have e7 := g7 (ns := ns) (x2 := x2) (x8 := some (.sh, kept n ss)) (x9 := some (.sh, .lst ((walks ss).map enc))) (x10 := y10) (x11 := some (.sh, .lst (goodL n ss))) (x12 := some (.sh, namesL ss)) (x15 := some (.sh, .tup (encs ss))) (x16 := x16) (x17 := x17) hD (stV nums c1) hy13
  obtain ⟨t, q, hq, ht, e8⟩ := g8 (ns := ns) (x2 := x2) (x8 := some (.sh, kept n ss)) (x9 := some (.sh, .lst ((walks ss).map enc))) (x10 := y10) (x11 := some (.sh, .lst (goodL n ss))) (x12 := some (.sh, namesL ss)) (x13 := some (.sh, rowW (List.replicate n 0))) (x14 := some (.sh, .int n)) (x15 := some (.sh, .tup (encs ss))) N hD c1 (by omega) h16 h17
  have e9 := g9 (ns := ns) (x2 := x2) (x9 := some (.sh, .lst ((walks ss).map enc))) (x10 := y10) (x11 := some (.sh, .lst (goodL n ss))) (x12 := some (.sh, namesL ss)) (x13 := some (.sh, rowW (List.replicate n 0))) (x14 := some (.sh, .int n)) (x15 := some (.sh, .tup (encs ss))) hD (stV nums (c1 + 1)) t q hq ht
  refine ⟨c1 + 1, some (.sh, thV n (encs ss)), some (.sh, kept n ss), some (.sh, .lst ((walks ss).map enc)), y10, some (.sh, .lst (goodL n ss)), some (.sh, namesL ss), some (.sh, rowW (List.replicate n 0)), some (.sh, .int n), some (.sh, .tup (encs ss)), some (.sh, t), some (.sh, errStr q), by omega, by omega, .sh _, .sh _, .sh _, hy10, .sh _, .sh _, .sh _, .sh _, .sh _, .sh _, .sh _, ?_⟩
  simp only [tB, b_law]
  rw [e1, e2, e3, e4, e5, e6, e7, e8, e9]
  rfl
theorem cmp_eq_tup {xs : List PV} (h : tame (.tup xs) = true) (hd : dep (.tup xs) ≤ 64) : cmpV .eq (.tup xs) (.tup xs) = some true := by
  have e : cmpV .eq (.tup xs) (.tup xs) = if eqOk (.tup xs) && eqOk (.tup xs) then some (eqV' (.tup xs) (.tup xs)) else none := rfl
  rw [e, eqOk_of h hd, eqV_refl h]
  rfl
theorem cmp_eq_lst {xs : List PV} (h : tame (.lst xs) = true) (hd : dep (.lst xs) ≤ 64) : cmpV .eq (.lst xs) (.lst xs) = some true := by
  have e : cmpV .eq (.lst xs) (.lst xs) = if eqOk (.lst xs) && eqOk (.lst xs) then some (eqV' (.lst xs) (.lst xs)) else none := rfl
  rw [e, eqOk_of h hd, eqV_refl h]
  rfl
def yesT (n : Nat) : PV := .tup (List.replicate n (.tup [.str sYes]))
def yesS (n : Nat) : Sy := .mk .all (List.replicate n (.mk .yes []))
theorem yesS_enc (n : Nat) : enc (yesS n) = .tup [.str sAll, yesT n] := by
  have e : ∀ n, encs (List.replicate n (.mk .yes [])) = List.replicate n (.tup [.str sYes]) := fun n => by
    induction n with
    | zero => rfl
    | succ n ih => rw [List.replicate_succ, encs, ih]; rfl
  simp only [yesS, enc, encK, yesT, e]
theorem yesS_facts (L : Int) (n : Nat) (h : n < 1000) : fine L (yesS n) ∧ sz (yesS n) = n + 1 ∧ dp (yesS n) ≤ 2 := by
  have a : ∀ n, fines L (List.replicate n (.mk .yes [])) := fun n => by
    induction n with
    | zero => trivial
    | succ n ih => rw [List.replicate_succ]; exact ⟨leaf_yes L, ih⟩
  have b : ∀ n, szsL (List.replicate n (.mk .yes [])) = n := fun n => by
    induction n with
    | zero => rfl
    | succ n ih => rw [List.replicate_succ, szsL, ih]; simp -implicitDefEqProofs [sz, szsL]; omega
  have c : ∀ n, dps (List.replicate n (.mk .yes [])) ≤ 1 := fun n => by
    induction n with
    | zero => simp -implicitDefEqProofs [dps]
    | succ n ih => rw [List.replicate_succ, dps]; simp -implicitDefEqProofs [dp, dps]; omega
  refine ⟨?_, ?_, ?_⟩
  · rw [yesS, fine]; exact ⟨trivial, by simpa using h, a n⟩
  · rw [yesS, sz, b]; omega
  · rw [yesS, dp]; have := c n; omega
theorem yes_mul (n : Nat) (h : n ≤ 1000) : binV .mul (.tup [.tup [.str sYes]]) (.int n) = some (false, yesT n) := by
  rw [binV_mul_tup _ _ (by omega) (by simp -implicitDefEqProofs) (by simp -implicitDefEqProofs), flat_rep, Int.toNat_natCast]
  rfl
theorem one_th {s : Sy} (f : fine 0 s) (h1 : sz s ≤ 120) (h2 : dp s ≤ 10) : Th 0 [s] := ⟨by omega, by omega, by simp -implicitDefEqProofs, fun x hx => by simp -implicitDefEqProofs at hx; subst hx; exact ⟨f, h1, h2⟩⟩
theorem end1 : E 30 19 [some (.sh, .int 3), some (.sh, thV 0 [enc (nots 9)]), some (.sh, .int 0)] = .ok false (.tup [.str sTold, .int 10]) [none, none, none] := by
  have q := size_ok 25 0 [nots 9] (one_th (nots_fine 0 9) (by rw [nots_sz]; omega) (by rw [nots_dp]; omega)) (by simp -implicitDefEqProofs [szsL, nots_sz])
  have := told_ok 29 3 10 (thV 0 [enc (nots 9)]) _ (.int 0) false rfl q
  simp -implicitDefEqProofs [szsL, nots_sz] at this
  exact this
theorem end2 : E 30 19 [some (.sh, .int 3), some (.sh, thV 0 [.tup [.str sAll, yesT 119]]), some (.sh, .int 0)] = .ok false (.tup [.str sTold, .int 120]) [none, none, none] := by
  obtain ⟨f1, f2, f3⟩ := yesS_facts 0 119 (by omega)
  have q := size_ok 25 0 [yesS 119] (one_th f1 (by omega) (by omega)) (by simp -implicitDefEqProofs [szsL, f2])
  simp only [encs, yesS_enc] at q
  have := told_ok 29 3 10 (thV 0 [.tup [.str sAll, yesT 119]]) _ (.int 0) false rfl q
  simp -implicitDefEqProofs [szsL, f2] at this
  exact this
theorem end3 : E 30 19 [some (.sh, .int 0), some (.sh, thV 0 [.tup [.str sAll, yesT 120]]), some (.sh, .int 0)] = .ok false (errStr 1) [none, none, none] := by
  obtain ⟨f1, f2, f3⟩ := yesS_facts 0 120 (by omega)
  have hc : E 28 5 [some (.sh, .int 0), some (.sh, enc (yesS 120))] = .exc 1 .non := by
    rcases check_spec 26 0 (yesS 120) f1 (by omega) with ⟨z, _⟩ | ⟨_, e⟩
    · omega
    · exact e
  have q := theory_bad 26 0 [] (enc (yesS 120)) 1 ⟨by omega, by omega, by simp -implicitDefEqProofs, fun _ z => by cases z⟩ (by simp -implicitDefEqProofs) hc
  rw [yesS_enc] at q
  exact told_exc 29 0 4 1 _ _ (by omega) rfl q
theorem end4 : E 30 19 [some (.sh, .int 1), some (.sh, thV 15 []), some (.sh, .int 0)] = .ok false (errStr 1) [none, none, none] :=
  told_exc 29 1 8 1 _ _ (by omega) rfl (rowsth_large 15 15 [] ⟨by omega, by omega, by simp -implicitDefEqProofs, fun _ z => by cases z⟩ (by omega))
/-- the law -/
theorem law_runs (ns : List Int) (h : ns.length ≤ 63) : ∃ outs, callF ⟨1, n_law.length, b_law⟩ (E 30) [some (.sh, .scr ns)] = .ok false (.bl true) outs := by
  obtain ⟨nums, N, hs⟩ := stream_spec 29 ns h
  have hs : E 30 11 [some (.sh, .scr ns)] = .ok true (.lst (nums.map .int)) [none] := hs
  obtain ⟨ρ', e, c, x2, x7, x8, x9, x10, x11, x12, x13, x14, x15, x16, x17, rfl, c0, cl, h2, h7, h8, h9, h10, h11, h12, h13, h14, h15, h16, h17⟩ := for_run (C := E 30) (tg := .name 2) (ik := .range1) (its := [(.cst (.int 8))]) (b := tB) (ρ := lwS ns (stV nums 0) none none none none none none none none none none none none)
    (lwS ns (stV nums 0) none none none none none none none none none none none none) ((List.range 8).map fun j : Nat => PV.int (j : Int)) (fun i ρ => ∃ (c : Int) (x2 x7 x8 x9 x10 x11 x12 x13 x14 x15 x16 x17 : Slot), ρ = lwS ns (stV nums c) x2 x7 x8 x9 x10 x11 x12 x13 x14 x15 x16 x17 ∧ 0 ≤ c ∧ c ≤ 401 * i ∧ anyN x2 ∧ anyN x7 ∧ anyN x8 ∧ anyN x9 ∧ anyN x10 ∧ anyN x11 ∧ anyN x12 ∧ anyN x13 ∧ anyN x14 ∧ anyN x15 ∧ anyN x16 ∧ anyN x17) rfl (by
      simp -implicitDefEqProofs [itV_range1 8 (by omega)]) (fun i x ρ hi hP => by
      obtain ⟨c, x2, x7, x8, x9, x10, x11, x12, x13, x14, x15, x16, x17, rfl, c0, cl, h2, h7, h8, h9, h10, h11, h12, h13, h14, h15, h16, h17⟩ := hP
      obtain ⟨j, hj, rfl⟩ := map_at hi
      have lt : i < 8 := by have := (List.getElem?_eq_some_iff.mp hj).1; simpa using this
      obtain ⟨c', y7, y8, y9, y10, y11, y12, y13, y14, y15, y16, y17, l1, l2, g7, g8, g9, g10, g11, g12, g13, g14, g15, g16, g17, e⟩ := turn_ok (ns := ns) N c (by omega) (some (.sh, .int j)) h7 h8 h9 h10 h11 h12 h13 h14 h15 h16 h17
      refine ⟨lwS ns (stV nums c') (some (.sh, .int j)) y7 y8 y9 y10 y11 y12 y13 y14 y15 y16 y17, ?_, c', _, _, _, _, _, _, _, _, _, _, _, _, rfl, by omega, by omega, .sh _, g7, g8, g9, g10, g11, g12, g13, g14, g15, g16, g17⟩
      rw [← e, bindT_name, show (lwS ns (stV nums c) x2 x7 x8 x9 x10 x11 x12 x13 x14 x15 x16 x17)[2]? = some x2 from rfl, setS_any h2]
      rfl) ⟨0, _, _, _, _, _, _, _, _, _, _, _, _, rfl, by omega, by omega, .none, .none, .none, .none, .none, .none, .none, .none, .none, .none, .none, .none⟩
  obtain ⟨ρ'', e2, y, rfl, hy⟩ := for_run (C := E 30) (tg := .name 4) (ik := .range1) (its := [(.cst (.int 9))]) (b := [.asg (.name 3) (.tup [(.cst (.str [110, 111, 116])), (.var 3)])]) (ρ := [some (.sh, .scr ns), some (.own, stV nums c), x2, some (.sh, .tup [.str sYes]), none, none, none, x7, x8, x9, x10, x11, x12, x13, x14, x15, x16, x17, none])
    [some (.sh, .scr ns), some (.own, stV nums c), x2, some (.sh, .tup [.str sYes]), none, none, none, x7, x8, x9, x10, x11, x12, x13, x14, x15, x16, x17, none] ((List.range 9).map fun j : Nat => PV.int (j : Int)) (fun i ρ => ∃ y, ρ = [some (.sh, .scr ns), some (.own, stV nums c), x2, some (.sh, enc (nots i)), y, none, none, x7, x8, x9, x10, x11, x12, x13, x14, x15, x16, x17, none] ∧ anyN y) rfl (by
      simp -implicitDefEqProofs [itV_range1 9 (by omega)]) (fun i x ρ hi hP => by
      obtain ⟨y, rfl, hy⟩ := hP
      obtain ⟨j, hj, rfl⟩ := map_at hi
      refine ⟨[some (.sh, .scr ns), some (.own, stV nums c), x2, some (.sh, enc (nots (i + 1))), some (.sh, .int j), none, none, x7, x8, x9, x10, x11, x12, x13, x14, x15, x16, x17, none], ?_, _, rfl, .sh _⟩
      rw [nots_enc]
      simp -implicitDefEqProofs [setS_any hy]) ⟨none, rfl, .none⟩
  rw [show ((List.range 9).map fun j : Nat => PV.int (j : Int)).length = 9 from rfl] at e2
  have m119 : binV .mul (.tup [.tup [.str [121, 101, 115]]]) (.int 119) = some (false, yesT 119) := yes_mul 119 (by omega)
  have m120 : binV .mul (.tup [.tup [.str [121, 101, 115]]]) (.int 120) = some (false, yesT 120) := yes_mul 120 (by omega)
  have q1 := cmp_eq_lst (xs := [.tup [.str sTold, .int 10], .tup [.str sTold, .int 120], errStr 1, errStr 1]) (by simp -implicitDefEqProofs [tame, tames, errStr]; decide) (by simp -implicitDefEqProofs [dep, deps, errStr])
  have q2 := cmp_eq_tup (xs := [.int 120, .int 10, .int 20, .int 30, .int 1000]) (by decide) (by simp -implicitDefEqProofs [dep, deps])
  have r1 := end1
  have r2 := end2
  have r3 := end3
  have r4 := end4
  simp only [tB, b_law] at e
  refine ⟨[none], ?_⟩
  simp only [thV] at r1 r2 r3 r4
  simp only [lwS, stV] at e
  simp -implicitDefEqProofs [n_law, b_law, hs]
  rw [e]
  simp only [stV] at e2
  simp -implicitDefEqProofs [setS_any (show anyN none from .none)]
  rw [e2]
  simp -implicitDefEqProofs [m119, m120, r1, r2, r3, r4, errStr, setS_any hy]
  simp -implicitDefEqProofs [errStr] at q1
  simp -implicitDefEqProofs [q1, q2]
end Cw.Ev
set_option Elab.async false
set_option linter.all false
set_option maxRecDepth 100000
set_option maxHeartbeats 4000000
set_option autoImplicit false
/-! the top, by top.py -/
namespace Cw
open PySem PySem.Spec PyProof.Rows L2
theorem sc_is_row : FnScope n_is_row ["letters", "row"] (defScope (top 9)) := ⟨rfl, rfl, rfl, by decide +kernel, rfl, by decide +kernel, by decide +kernel⟩
def dd_is_row : He.DefD := ⟨("is_row", none), "is_row", "is_row", defArgs (top 9), defBody (top 9), defScope (top 9), [], []⟩
theorem sc_all_rows : FnScope n_all_rows ["letters"] (defScope (top 10)) := ⟨rfl, rfl, rfl, by decide +kernel, rfl, by decide +kernel, by decide +kernel⟩
def dd_all_rows : He.DefD := ⟨("all_rows", none), "all_rows", "all_rows", defArgs (top 10), defBody (top 10), defScope (top 10), [], []⟩
theorem sc_parts_of : FnScope n_parts_of ["saying"] (defScope (top 17)) := ⟨rfl, rfl, rfl, by decide +kernel, rfl, by decide +kernel, by decide +kernel⟩
def dd_parts_of : He.DefD := ⟨("parts_of", none), "parts_of", "parts_of", defArgs (top 17), defBody (top 17), defScope (top 17), [], []⟩
theorem sc_is_kind : FnScope n_is_kind ["letters", "saying"] (defScope (top 18)) := ⟨rfl, rfl, rfl, by decide +kernel, rfl, by decide +kernel, by decide +kernel⟩
def dd_is_kind : He.DefD := ⟨("is_kind", none), "is_kind", "is_kind", defArgs (top 18), defBody (top 18), defScope (top 18), [], []⟩
theorem sc_check_theory : FnScope n_check_theory ["theory"] (defScope (top 19)) := ⟨rfl, rfl, rfl, by decide +kernel, rfl, by decide +kernel, by decide +kernel⟩
def dd_check_theory : He.DefD := ⟨("check_theory", none), "check_theory", "check_theory", defArgs (top 19), defBody (top 19), defScope (top 19), [], []⟩
theorem sc_check_saying : FnScope n_check_saying ["letters", "saying"] (defScope (top 20)) := ⟨rfl, rfl, rfl, by decide +kernel, rfl, by decide +kernel, by decide +kernel⟩
def dd_check_saying : He.DefD := ⟨("check_saying", none), "check_saying", "check_saying", defArgs (top 20), defBody (top 20), defScope (top 20), [], []⟩
theorem sc_known_holds : FnScope n_known_holds ["saying", "row"] (defScope (top 21)) := ⟨rfl, rfl, rfl, by decide +kernel, rfl, by decide +kernel, by decide +kernel⟩
def dd_known_holds : He.DefD := ⟨("known_holds", none), "known_holds", "known_holds", defArgs (top 21), defBody (top 21), defScope (top 21), [], []⟩
theorem sc_holds : FnScope n_holds ["theory", "row"] (defScope (top 22)) := ⟨rfl, rfl, rfl, by decide +kernel, rfl, by decide +kernel, by decide +kernel⟩
def dd_holds : He.DefD := ⟨("holds", none), "holds", "holds", defArgs (top 22), defBody (top 22), defScope (top 22), [], []⟩
theorem sc_rows_that_hold : FnScope n_rows_that_hold ["theory"] (defScope (top 23)) := ⟨rfl, rfl, rfl, by decide +kernel, rfl, by decide +kernel, by decide +kernel⟩
def dd_rows_that_hold : He.DefD := ⟨("rows_that_hold", none), "rows_that_hold", "rows_that_hold", defArgs (top 23), defBody (top 23), defScope (top 23), [], []⟩
theorem sc_letters_used : FnScope n_letters_used ["theory"] (defScope (top 24)) := ⟨rfl, rfl, rfl, by decide +kernel, rfl, by decide +kernel, by decide +kernel⟩
def dd_letters_used : He.DefD := ⟨("letters_used", none), "letters_used", "letters_used", defArgs (top 24), defBody (top 24), defScope (top 24), [], []⟩
theorem sc_size_of : FnScope n_size_of ["theory"] (defScope (top 25)) := ⟨rfl, rfl, rfl, by decide +kernel, rfl, by decide +kernel, by decide +kernel⟩
def dd_size_of : He.DefD := ⟨("size_of", none), "size_of", "size_of", defArgs (top 25), defBody (top 25), defScope (top 25), [], []⟩
theorem sc_law_stream : FnScope n_law_stream ["script"] (defScope (top 28)) := ⟨rfl, rfl, rfl, by decide +kernel, rfl, by decide +kernel, by decide +kernel⟩
def dd_law_stream : He.DefD := ⟨("_law_stream", none), "_law_stream", "_law_stream", defArgs (top 28), defBody (top 28), defScope (top 28), [], []⟩
theorem sc_law_next : FnScope n_law_next ["state", "many"] (defScope (top 29)) := ⟨rfl, rfl, rfl, by decide +kernel, rfl, by decide +kernel, by decide +kernel⟩
def dd_law_next : He.DefD := ⟨("_law_next", none), "_law_next", "_law_next", defArgs (top 29), defBody (top 29), defScope (top 29), [], []⟩
theorem sc_law_saying : FnScope n_law_saying ["state", "letters", "deep"] (defScope (top 30)) := ⟨rfl, rfl, rfl, by decide +kernel, rfl, by decide +kernel, by decide +kernel⟩
def dd_law_saying : He.DefD := ⟨("_law_saying", none), "_law_saying", "_law_saying", defArgs (top 30), defBody (top 30), defScope (top 30), [], []⟩
theorem sc_law_theory : FnScope n_law_theory ["state", "most", "many"] (defScope (top 31)) := ⟨rfl, rfl, rfl, by decide +kernel, rfl, by decide +kernel, by decide +kernel⟩
def dd_law_theory : He.DefD := ⟨("_law_theory", none), "_law_theory", "_law_theory", defArgs (top 31), defBody (top 31), defScope (top 31), [], []⟩
theorem sc_law_rows : FnScope n_law_rows ["letters"] (defScope (top 32)) := ⟨rfl, rfl, rfl, by decide +kernel, rfl, by decide +kernel, by decide +kernel⟩
def dd_law_rows : He.DefD := ⟨("_law_rows", none), "_law_rows", "_law_rows", defArgs (top 32), defBody (top 32), defScope (top 32), [], []⟩
theorem sc_law_value : FnScope n_law_value ["saying", "row"] (defScope (top 33)) := ⟨rfl, rfl, rfl, by decide +kernel, rfl, by decide +kernel, by decide +kernel⟩
def dd_law_value : He.DefD := ⟨("_law_value", none), "_law_value", "_law_value", defArgs (top 33), defBody (top 33), defScope (top 33), [], []⟩
theorem sc_law_same : FnScope n_law_same ["told", "due"] (defScope (top 34)) := ⟨rfl, rfl, rfl, by decide +kernel, rfl, by decide +kernel, by decide +kernel⟩
def dd_law_same : He.DefD := ⟨("_law_same", none), "_law_same", "_law_same", defArgs (top 34), defBody (top 34), defScope (top 34), [], []⟩
theorem sc_law_odd_theory : FnScope n_law_odd_theory ["state", "theory"] (defScope (top 35)) := ⟨rfl, rfl, rfl, by decide +kernel, rfl, by decide +kernel, by decide +kernel⟩
def dd_law_odd_theory : He.DefD := ⟨("_law_odd_theory", none), "_law_odd_theory", "_law_odd_theory", defArgs (top 35), defBody (top 35), defScope (top 35), [], []⟩
theorem sc_law_told : FnScope n_law_told ["kind", "theory", "row"] (defScope (top 36)) := ⟨rfl, rfl, rfl, by decide +kernel, rfl, by decide +kernel, by decide +kernel⟩
def dd_law_told : He.DefD := ⟨("_law_told", none), "_law_told", "_law_told", defArgs (top 36), defBody (top 36), defScope (top 36), [], []⟩
theorem sc_law_within : FnScope n_law_within ["saying"] (defScope (top 37)) := ⟨rfl, rfl, rfl, by decide +kernel, rfl, by decide +kernel, by decide +kernel⟩
def dd_law_within : He.DefD := ⟨("_law_within", none), "_law_within", "_law_within", defArgs (top 37), defBody (top 37), defScope (top 37), [], []⟩
theorem sc_law_walk : FnScope n_law_walk ["saying"] (defScope (top 38)) := ⟨rfl, rfl, rfl, by decide +kernel, rfl, by decide +kernel, by decide +kernel⟩
def dd_law_walk : He.DefD := ⟨("_law_walk", none), "_law_walk", "_law_walk", defArgs (top 38), defBody (top 38), defScope (top 38), [], []⟩
theorem sc_law : FnScope n_law ["script"] (defScope (top 39)) := ⟨rfl, rfl, rfl, by decide +kernel, rfl, by decide +kernel, by decide +kernel⟩
def dd_law : He.DefD := ⟨("law", none), "law", "law", defArgs (top 39), defBody (top 39), defScope (top 39), [], []⟩
def dd_err : He.DefD := ⟨("_law_error", none), "_law_error", "_law_error", defArgs (top 27), defBody (top 27), defScope (top 27), [], []⟩
theorem sc_err : FnScope eN ["e"] (defScope (top 27)) := ⟨rfl, rfl, rfl, by decide +kernel, rfl, by decide +kernel, by decide +kernel⟩
theorem sh_err : ∃ sc2, ErrShape (defBody (top 27)) sc2 ∧ eB (defScope (top 27)) sc2 = true := ⟨_, ⟨_, _, _, _, _, _, _, _, _, _, _, _, _, _, _, _, _, _, _, _, _, _, _, _, _, _, _, _, _, _, _, _, _, _, _, _, _, _, _, _, _, _, _, _, _, _, _, _, _, _, _, _, _, _, _, _, _, _, _, _, _, _, _, _, _, _, _, _, rfl, rfl⟩, by kernel_rfl⟩
def fnL : List He.DefD := [dd_is_row, dd_all_rows, dd_parts_of, dd_is_kind, dd_check_theory, dd_check_saying, dd_known_holds, dd_holds, dd_rows_that_hold, dd_letters_used, dd_size_of, dd_law_stream, dd_law_next, dd_law_saying, dd_law_theory, dd_law_rows, dd_law_value, dd_law_same, dd_law_odd_theory, dd_law_told, dd_law_within, dd_law_walk, dd_law, dd_err]
def gloL : List Str := TT.fns ++ ((["_law_error", "CountError"] : List Str) ++ eNames)
def faL : List He.Fa := gloL.map .glo ++ (TT.free.map .free ++ TT.nums.map fun p => .int p.1 p.2)
theorem fact_mem {fa : List He.Fa} {fn : List He.DefD} {K : PySem.W.Frag} (c : He.SaysD fa fn K) {f : He.Fa} (h : f ∈ fa) : f.ok K = true := by
  have c1 : ((fa.all fun f => f.ok K) && fn.all fun d => d.ok K) = true := congrArg Prod.fst c
  rw [Bool.and_eq_true] at c1
  exact List.all_eq_true.mp c1.1 f h
section
variable {P : Program} {w : World} {K : PySem.W.Frag} {h : Heap} {mg : Str → Option Value}
theorem glo_at (X : K.In h) (G : h.Ns mainGlobals mg) (c : He.SaysD faL fnL K) {x : Str} (m : x ∈ gloL) : mg x = some (.ref (He.ga K x)) := He.glo_ok X G (fact_mem c (List.mem_append_left _ (List.mem_map_of_mem m)))
theorem free_at (X : K.In h) (G : h.Ns mainGlobals mg) (c : He.SaysD faL fnL K) {x : Str} (m : x ∈ TT.free) : mg x = none := He.free_ok X G (fact_mem c (List.mem_append_right _ (List.mem_append_left _ (List.mem_map_of_mem m))))
theorem nums_at (X : K.In h) (G : h.Ns mainGlobals mg) (c : He.SaysD faL fnL K) {x : Str} {v : Int} (m : (x, v) ∈ TT.nums) : ∃ t, mg x = some (.int v t) := He.int_ok X G (fact_mem c (List.mem_append_right _ (List.mem_append_right _ (List.mem_map.mpr ⟨(x, v), m, rfl⟩))))
theorem exs_at (X : K.In h) (G : h.Ns mainGlobals mg) (c : He.SaysD faL fnL K) (t : testX TT.excs K = true) (i : Nat) (x : Str) (hx : TT.excs[i]? = some x) : ExcK K mg (EAo K) i x := by
  have lt : i < 4 := by
    rcases Nat.lt_or_ge i 4 with z | z
    · exact z
    · rw [List.getElem?_eq_none (show TT.excs.length ≤ i from z)] at hx; cases hx
  match i, lt with
  | 0, _ => cases hx; exact excK_of t (i := 0) rfl rfl (glo_at X G c (by decide +kernel))
  | 1, _ => cases hx; exact excK_of t (i := 1) rfl rfl (glo_at X G c (by decide +kernel))
  | 2, _ => cases hx; exact excK_of t (i := 2) rfl rfl (glo_at X G c (by decide +kernel))
  | 3, _ => cases hx; exact excK_of t (i := 3) rfl rfl (glo_at X G c (by decide +kernel))
theorem errs_at (X : K.In h) (G : h.Ns mainGlobals mg) (c : He.SaysD faL fnL K) (t : testX TT.excs K = true) : ErrK (EAo K) K mg := by
  obtain ⟨fd, F⟩ := c.def_ 23 (d := dd_err) rfl
  obtain ⟨oc, od, dV, kV, doc, pm, an, cdv, ct, osl, rfl, lk, hcd, hD, hK⟩ := F.ex
  have e : dV = .none := by
    rcases hD with ⟨_, e⟩ | ⟨e, _⟩
    · exact e
    · exact absurd rfl e
  subst e
  obtain ⟨sc2, sh, hb⟩ := sh_err
  have bE : Binds K (PySem.W.fnOf dd_err.name dd_err.qual dd_err.params dd_err.body dd_err.scope .none kV doc pm an cdv ct) ["e"] [] := .all fun us hl => match us, hl with | [_], _ => rfl
  refine ⟨_, _, "e", .ref (He.ga K "CountError"), glo_at X G c (x := "_law_error") (by decide +kernel), F.kp, bE, glo_at X G c (by decide +kernel), fun n hn => exm_of5 t hn, fun P w base k => ?_⟩
  refine fnErr lk hcd sc_err hb (fun y hy => free_at X G c ?_) ⟨fun i x hx => ?_, fun i j hi hj => kit_of t hi hj, fun i hi => excC_of t hi⟩ sh
  · revert y; decide +kernel
  · have lt : i < 5 := by
      rcases Nat.lt_or_ge i 5 with z | z
      · exact z
      · rw [List.getElem?_eq_none (by exact z)] at hx; cases hx
    match i, lt with
    | 0, _ => cases hx; exact ⟨glo_at X G c (by decide +kernel), by decide +kernel⟩
    | 1, _ => cases hx; exact ⟨glo_at X G c (by decide +kernel), by decide +kernel⟩
    | 2, _ => cases hx; exact ⟨glo_at X G c (by decide +kernel), by decide +kernel⟩
    | 3, _ => cases hx; exact ⟨glo_at X G c (by decide +kernel), by decide +kernel⟩
    | 4, _ => cases hx; exact ⟨glo_at X G c (by decide +kernel), by decide +kernel⟩
theorem da_is_row (X : K.In h) (G : h.Ns mainGlobals mg) (c : He.SaysD faL fnL K) (t : testX TT.excs K = true) : DefAt TT (EAo K) P w K mg TBL 0 "is_row" := by
  obtain ⟨fd, F⟩ := c.def_ 0 (d := dd_is_row) rfl
  exact defAt_of F (glo_at X G c (by decide +kernel)) sc_is_row (fun _ _ _ _ _ _ us hl => match us, hl with | [_, _], _ => rfl) rfl rfl rfl (cBody_ok t_is_row (exs_at X G c t) fun _ => errs_at X G c t)
theorem da_all_rows (X : K.In h) (G : h.Ns mainGlobals mg) (c : He.SaysD faL fnL K) (t : testX TT.excs K = true) : DefAt TT (EAo K) P w K mg TBL 1 "all_rows" := by
  obtain ⟨fd, F⟩ := c.def_ 1 (d := dd_all_rows) rfl
  exact defAt_of F (glo_at X G c (by decide +kernel)) sc_all_rows (fun _ _ _ _ _ _ us hl => match us, hl with | [_], _ => rfl) rfl rfl rfl (cBody_ok t_all_rows (exs_at X G c t) fun _ => errs_at X G c t)
theorem da_parts_of (X : K.In h) (G : h.Ns mainGlobals mg) (c : He.SaysD faL fnL K) (t : testX TT.excs K = true) : DefAt TT (EAo K) P w K mg TBL 2 "parts_of" := by
  obtain ⟨fd, F⟩ := c.def_ 2 (d := dd_parts_of) rfl
  exact defAt_of F (glo_at X G c (by decide +kernel)) sc_parts_of (fun _ _ _ _ _ _ us hl => match us, hl with | [_], _ => rfl) rfl rfl rfl (cBody_ok t_parts_of (exs_at X G c t) fun _ => errs_at X G c t)
theorem da_is_kind (X : K.In h) (G : h.Ns mainGlobals mg) (c : He.SaysD faL fnL K) (t : testX TT.excs K = true) : DefAt TT (EAo K) P w K mg TBL 3 "is_kind" := by
  obtain ⟨fd, F⟩ := c.def_ 3 (d := dd_is_kind) rfl
  exact defAt_of F (glo_at X G c (by decide +kernel)) sc_is_kind (fun _ _ _ _ _ _ us hl => match us, hl with | [_, _], _ => rfl) rfl rfl rfl (cBody_ok t_is_kind (exs_at X G c t) fun _ => errs_at X G c t)
theorem da_check_theory (X : K.In h) (G : h.Ns mainGlobals mg) (c : He.SaysD faL fnL K) (t : testX TT.excs K = true) : DefAt TT (EAo K) P w K mg TBL 4 "check_theory" := by
  obtain ⟨fd, F⟩ := c.def_ 4 (d := dd_check_theory) rfl
  exact defAt_of F (glo_at X G c (by decide +kernel)) sc_check_theory (fun _ _ _ _ _ _ us hl => match us, hl with | [_], _ => rfl) rfl rfl rfl (cBody_ok t_check_theory (exs_at X G c t) fun _ => errs_at X G c t)
theorem da_check_saying (X : K.In h) (G : h.Ns mainGlobals mg) (c : He.SaysD faL fnL K) (t : testX TT.excs K = true) : DefAt TT (EAo K) P w K mg TBL 5 "check_saying" := by
  obtain ⟨fd, F⟩ := c.def_ 5 (d := dd_check_saying) rfl
  exact defAt_of F (glo_at X G c (by decide +kernel)) sc_check_saying (fun _ _ _ _ _ _ us hl => match us, hl with | [_, _], _ => rfl) rfl rfl rfl (cBody_ok t_check_saying (exs_at X G c t) fun _ => errs_at X G c t)
theorem da_known_holds (X : K.In h) (G : h.Ns mainGlobals mg) (c : He.SaysD faL fnL K) (t : testX TT.excs K = true) : DefAt TT (EAo K) P w K mg TBL 6 "known_holds" := by
  obtain ⟨fd, F⟩ := c.def_ 6 (d := dd_known_holds) rfl
  exact defAt_of F (glo_at X G c (by decide +kernel)) sc_known_holds (fun _ _ _ _ _ _ us hl => match us, hl with | [_, _], _ => rfl) rfl rfl rfl (cBody_ok t_known_holds (exs_at X G c t) fun _ => errs_at X G c t)
theorem da_holds (X : K.In h) (G : h.Ns mainGlobals mg) (c : He.SaysD faL fnL K) (t : testX TT.excs K = true) : DefAt TT (EAo K) P w K mg TBL 7 "holds" := by
  obtain ⟨fd, F⟩ := c.def_ 7 (d := dd_holds) rfl
  exact defAt_of F (glo_at X G c (by decide +kernel)) sc_holds (fun _ _ _ _ _ _ us hl => match us, hl with | [_, _], _ => rfl) rfl rfl rfl (cBody_ok t_holds (exs_at X G c t) fun _ => errs_at X G c t)
theorem da_rows_that_hold (X : K.In h) (G : h.Ns mainGlobals mg) (c : He.SaysD faL fnL K) (t : testX TT.excs K = true) : DefAt TT (EAo K) P w K mg TBL 8 "rows_that_hold" := by
  obtain ⟨fd, F⟩ := c.def_ 8 (d := dd_rows_that_hold) rfl
  exact defAt_of F (glo_at X G c (by decide +kernel)) sc_rows_that_hold (fun _ _ _ _ _ _ us hl => match us, hl with | [_], _ => rfl) rfl rfl rfl (cBody_ok t_rows_that_hold (exs_at X G c t) fun _ => errs_at X G c t)
theorem da_letters_used (X : K.In h) (G : h.Ns mainGlobals mg) (c : He.SaysD faL fnL K) (t : testX TT.excs K = true) : DefAt TT (EAo K) P w K mg TBL 9 "letters_used" := by
  obtain ⟨fd, F⟩ := c.def_ 9 (d := dd_letters_used) rfl
  exact defAt_of F (glo_at X G c (by decide +kernel)) sc_letters_used (fun _ _ _ _ _ _ us hl => match us, hl with | [_], _ => rfl) rfl rfl rfl (cBody_ok t_letters_used (exs_at X G c t) fun _ => errs_at X G c t)
theorem da_size_of (X : K.In h) (G : h.Ns mainGlobals mg) (c : He.SaysD faL fnL K) (t : testX TT.excs K = true) : DefAt TT (EAo K) P w K mg TBL 10 "size_of" := by
  obtain ⟨fd, F⟩ := c.def_ 10 (d := dd_size_of) rfl
  exact defAt_of F (glo_at X G c (by decide +kernel)) sc_size_of (fun _ _ _ _ _ _ us hl => match us, hl with | [_], _ => rfl) rfl rfl rfl (cBody_ok t_size_of (exs_at X G c t) fun _ => errs_at X G c t)
theorem da_law_stream (X : K.In h) (G : h.Ns mainGlobals mg) (c : He.SaysD faL fnL K) (t : testX TT.excs K = true) : DefAt TT (EAo K) P w K mg TBL 11 "_law_stream" := by
  obtain ⟨fd, F⟩ := c.def_ 11 (d := dd_law_stream) rfl
  exact defAt_of F (glo_at X G c (by decide +kernel)) sc_law_stream (fun _ _ _ _ _ _ us hl => match us, hl with | [_], _ => rfl) rfl rfl rfl (cBody_ok t_law_stream (exs_at X G c t) fun _ => errs_at X G c t)
theorem da_law_next (X : K.In h) (G : h.Ns mainGlobals mg) (c : He.SaysD faL fnL K) (t : testX TT.excs K = true) : DefAt TT (EAo K) P w K mg TBL 12 "_law_next" := by
  obtain ⟨fd, F⟩ := c.def_ 12 (d := dd_law_next) rfl
  exact defAt_of F (glo_at X G c (by decide +kernel)) sc_law_next (fun _ _ _ _ _ _ us hl => match us, hl with | [_, _], _ => rfl) rfl rfl rfl (cBody_ok t_law_next (exs_at X G c t) fun _ => errs_at X G c t)
theorem da_law_saying (X : K.In h) (G : h.Ns mainGlobals mg) (c : He.SaysD faL fnL K) (t : testX TT.excs K = true) : DefAt TT (EAo K) P w K mg TBL 13 "_law_saying" := by
  obtain ⟨fd, F⟩ := c.def_ 13 (d := dd_law_saying) rfl
  exact defAt_of F (glo_at X G c (by decide +kernel)) sc_law_saying (fun _ _ _ _ _ _ us hl => match us, hl with | [_, _, _], _ => rfl) rfl rfl rfl (cBody_ok t_law_saying (exs_at X G c t) fun _ => errs_at X G c t)
theorem da_law_theory (X : K.In h) (G : h.Ns mainGlobals mg) (c : He.SaysD faL fnL K) (t : testX TT.excs K = true) : DefAt TT (EAo K) P w K mg TBL 14 "_law_theory" := by
  obtain ⟨fd, F⟩ := c.def_ 14 (d := dd_law_theory) rfl
  exact defAt_of F (glo_at X G c (by decide +kernel)) sc_law_theory (fun _ _ _ _ _ _ us hl => match us, hl with | [_, _, _], _ => rfl) rfl rfl rfl (cBody_ok t_law_theory (exs_at X G c t) fun _ => errs_at X G c t)
theorem da_law_rows (X : K.In h) (G : h.Ns mainGlobals mg) (c : He.SaysD faL fnL K) (t : testX TT.excs K = true) : DefAt TT (EAo K) P w K mg TBL 15 "_law_rows" := by
  obtain ⟨fd, F⟩ := c.def_ 15 (d := dd_law_rows) rfl
  exact defAt_of F (glo_at X G c (by decide +kernel)) sc_law_rows (fun _ _ _ _ _ _ us hl => match us, hl with | [_], _ => rfl) rfl rfl rfl (cBody_ok t_law_rows (exs_at X G c t) fun _ => errs_at X G c t)
theorem da_law_value (X : K.In h) (G : h.Ns mainGlobals mg) (c : He.SaysD faL fnL K) (t : testX TT.excs K = true) : DefAt TT (EAo K) P w K mg TBL 16 "_law_value" := by
  obtain ⟨fd, F⟩ := c.def_ 16 (d := dd_law_value) rfl
  exact defAt_of F (glo_at X G c (by decide +kernel)) sc_law_value (fun _ _ _ _ _ _ us hl => match us, hl with | [_, _], _ => rfl) rfl rfl rfl (cBody_ok t_law_value (exs_at X G c t) fun _ => errs_at X G c t)
theorem da_law_same (X : K.In h) (G : h.Ns mainGlobals mg) (c : He.SaysD faL fnL K) (t : testX TT.excs K = true) : DefAt TT (EAo K) P w K mg TBL 17 "_law_same" := by
  obtain ⟨fd, F⟩ := c.def_ 17 (d := dd_law_same) rfl
  exact defAt_of F (glo_at X G c (by decide +kernel)) sc_law_same (fun _ _ _ _ _ _ us hl => match us, hl with | [_, _], _ => rfl) rfl rfl rfl (cBody_ok t_law_same (exs_at X G c t) fun _ => errs_at X G c t)
theorem da_law_odd_theory (X : K.In h) (G : h.Ns mainGlobals mg) (c : He.SaysD faL fnL K) (t : testX TT.excs K = true) : DefAt TT (EAo K) P w K mg TBL 18 "_law_odd_theory" := by
  obtain ⟨fd, F⟩ := c.def_ 18 (d := dd_law_odd_theory) rfl
  exact defAt_of F (glo_at X G c (by decide +kernel)) sc_law_odd_theory (fun _ _ _ _ _ _ us hl => match us, hl with | [_, _], _ => rfl) rfl rfl rfl (cBody_ok t_law_odd_theory (exs_at X G c t) fun _ => errs_at X G c t)
theorem da_law_told (X : K.In h) (G : h.Ns mainGlobals mg) (c : He.SaysD faL fnL K) (t : testX TT.excs K = true) : DefAt TT (EAo K) P w K mg TBL 19 "_law_told" := by
  obtain ⟨fd, F⟩ := c.def_ 19 (d := dd_law_told) rfl
  exact defAt_of F (glo_at X G c (by decide +kernel)) sc_law_told (fun _ _ _ _ _ _ us hl => match us, hl with | [_, _, _], _ => rfl) rfl rfl rfl (cBody_ok t_law_told (exs_at X G c t) fun _ => errs_at X G c t)
theorem da_law_within (X : K.In h) (G : h.Ns mainGlobals mg) (c : He.SaysD faL fnL K) (t : testX TT.excs K = true) : DefAt TT (EAo K) P w K mg TBL 20 "_law_within" := by
  obtain ⟨fd, F⟩ := c.def_ 20 (d := dd_law_within) rfl
  exact defAt_of F (glo_at X G c (by decide +kernel)) sc_law_within (fun _ _ _ _ _ _ us hl => match us, hl with | [_], _ => rfl) rfl rfl rfl (cBody_ok t_law_within (exs_at X G c t) fun _ => errs_at X G c t)
theorem da_law_walk (X : K.In h) (G : h.Ns mainGlobals mg) (c : He.SaysD faL fnL K) (t : testX TT.excs K = true) : DefAt TT (EAo K) P w K mg TBL 21 "_law_walk" := by
  obtain ⟨fd, F⟩ := c.def_ 21 (d := dd_law_walk) rfl
  exact defAt_of F (glo_at X G c (by decide +kernel)) sc_law_walk (fun _ _ _ _ _ _ us hl => match us, hl with | [_], _ => rfl) rfl rfl rfl (cBody_ok t_law_walk (exs_at X G c t) fun _ => errs_at X G c t)
theorem da_law (X : K.In h) (G : h.Ns mainGlobals mg) (c : He.SaysD faL fnL K) (t : testX TT.excs K = true) : DefAt TT (EAo K) P w K mg TBL 22 "law" := by
  obtain ⟨fd, F⟩ := c.def_ 22 (d := dd_law) rfl
  exact defAt_of F (glo_at X G c (by decide +kernel)) sc_law (fun _ _ _ _ _ _ us hl => match us, hl with | [_], _ => rfl) rfl rfl rfl (cBody_ok t_law (exs_at X G c t) fun _ => errs_at X G c t)
theorem defs_at (X : K.In h) (G : h.Ns mainGlobals mg) (c : He.SaysD faL fnL K) (t : testX TT.excs K = true) (f : Nat) (x : Str) (hf : TT.fns[f]? = some x) : DefAt TT (EAo K) P w K mg TBL f x := by
  match f, hf with
  | 0, hf => cases hf; exact da_is_row X G c t
  | 1, hf => cases hf; exact da_all_rows X G c t
  | 2, hf => cases hf; exact da_parts_of X G c t
  | 3, hf => cases hf; exact da_is_kind X G c t
  | 4, hf => cases hf; exact da_check_theory X G c t
  | 5, hf => cases hf; exact da_check_saying X G c t
  | 6, hf => cases hf; exact da_known_holds X G c t
  | 7, hf => cases hf; exact da_holds X G c t
  | 8, hf => cases hf; exact da_rows_that_hold X G c t
  | 9, hf => cases hf; exact da_letters_used X G c t
  | 10, hf => cases hf; exact da_size_of X G c t
  | 11, hf => cases hf; exact da_law_stream X G c t
  | 12, hf => cases hf; exact da_law_next X G c t
  | 13, hf => cases hf; exact da_law_saying X G c t
  | 14, hf => cases hf; exact da_law_theory X G c t
  | 15, hf => cases hf; exact da_law_rows X G c t
  | 16, hf => cases hf; exact da_law_value X G c t
  | 17, hf => cases hf; exact da_law_same X G c t
  | 18, hf => cases hf; exact da_law_odd_theory X G c t
  | 19, hf => cases hf; exact da_law_told X G c t
  | 20, hf => cases hf; exact da_law_within X G c t
  | 21, hf => cases hf; exact da_law_walk X G c t
  | 22, hf => cases hf; exact da_law X G c t
  | _ + 23, hf => cases hf
theorem facts (X : K.In h) (G : h.Ns mainGlobals mg) {f : Addr} (hfa : mg ("law" : Str) = some (.ref f)) (c : obsX (testX TT.excs) faL fnL K = He.valD fnL) :
    ∃ fd : FuncData, (∀ (s : Shared) (u : Value), BindsTo s fd ⟨[u], []⟩ [("script", u)]) ∧ ∀ base : Heap, FnG P w K mg base 32 f fd ["script"] (spC K (EAo K) 1 (callF ⟨1, n_law.length, b_law⟩ (evalCall TBL 30))) := by
  obtain ⟨t, c⟩ := obsX_of c
  obtain ⟨fd, F⟩ := c.def_ 22 (d := dd_law) rfl
  have e := hfa.symm.trans (glo_at X G c (x := "law") (by decide +kernel))
  cases e
  exact law_of 30 F sc_law (fun _ _ _ _ _ _ us hl => match us, hl with | [_], _ => rfl) rfl rfl (cBody_ok t_law (exs_at X G c t) fun _ => errs_at X G c t) fun base => known_all (defs_at X G c t) (fun x m => free_at X G c m) (fun x v m => nums_at X G c m) 30
end
abbrev RR : PySem.W.OpenRow := PySem.W.OpenLaw.row PySem.Challenge.rw_countwarrant_k00_whole_sayings_that_hold
def loose0 : List Str := ["__name__", "CountError", "NotAllowed", "TooLarge", "Missing", "BadPaper", "BadForm", "MAX_TRIED", "is_row", "all_rows", "MAX_PARTS", "MAX_DEPTH", "MAX_OWN", "MAX_SAYINGS", "MAX_NUMBER", "parts_of", "is_kind", "check_theory", "check_saying", "known_holds", "holds", "rows_that_hold", "letters_used", "size_of", "_law_error", "_law_stream", "_law_next", "_law_saying", "_law_theory", "_law_rows"]
def loose1 : List Str := ["_law_value", "_law_same", "_law_odd_theory", "_law_told", "_law_within", "_law_walk"]
def looseL : List Str := loose0 ++ loose1
theorem run (w : World) : HandSHeadRun.RunEq RR (PySem.W.view RR.prog [39]) (hookX 4 (testX TT.excs) faL fnL) (obX 4 (testX TT.excs) faL fnL) 6000 looseL w := by
  intro os
  kernel_rfl
end Cw
open PySem PySem.W PySem.Calls PyProof.Rows
set_option maxRecDepth 100000 in
set_option maxHeartbeats 0 in
theorem PySem.Challenge.cw_countwarrant_k00_whole_sayings_that_hold_holds : PySem.Challenge.rw_countwarrant_k00_whole_sayings_that_hold.Holds := by
  w_on; o_law
  refine HandSHeadRun.head_any (r := Cw.RR) (q := view Cw.RR.prog [39]) (H := Cw.hookX 4 (Cw.testX Cw.TT.excs) Cw.faL Cw.fnL) (ob := Cw.obX 4 (Cw.testX Cw.TT.excs) Cw.faL Cw.fnL) (M := 6000) (loose := Cw.looseL) (d := HandSHeadRun.topDef Cw.RR.prog 39) (kwd := []) Cw.obX_eq
    (by kernel_rfl) (fun s => by kernel_rfl) Cw.run (by kernel_rfl) (by kernel_rfl) (by kernel_rfl) (by rfl) (by first | assumption | decide +kernel) (by decide +kernel) ⟨rfl, rfl, rfl, rfl, rfl, by decide +kernel⟩ ?hw ?hc
  case hw => w_witness2
  case hc =>
    refine Cw.walkH (l := PySem.Challenge.rw_countwarrant_k00_whole_sayings_that_hold) (n := 63) (k := 32) (x := "script") rfl (by decide) (by kernel_rfl) ⟨rfl, by decide, by decide⟩ ?F
    intro w mg fa h Y G hmg0
    obtain ⟨K, KX, c⟩ := Y
    have hmg : mg ("law" : PySem.Str) = some (.ref fa) := by
      have e : (HandSHeadRun.topDef Cw.RR.prog 39).name = ("law" : PySem.Str) := by kernel_rfl
      rw [← e]
      exact hmg0
    obtain ⟨fd, hb, hF⟩ := Cw.facts (P := (PySem.Challenge.rw_countwarrant_k00_whole_sayings_that_hold).prog) (w := w) KX G hmg c
    exact ⟨K, fd, Cw.EAo K, _, KX, hb, hF, Cw.Ev.law_runs⟩
#print axioms PySem.Challenge.cw_countwarrant_k00_whole_sayings_that_hold_holds

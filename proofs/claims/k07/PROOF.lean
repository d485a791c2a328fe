import PyProof.Rows.All
import Wide.All
import OpenK.AllK
import Wide.FinOn
import HandS.CallSlots
import HandS.Conv
import HandS.Deep
import HandS.Dict
import HandS.DictComp
import HandS.ExcIs
import HandS.ForExc
import HandS.ForMost
import HandS.HotCalls
import HandS.IsInst
import HandS.SetFor
import HandS.SortInts
import HandS.Strs
import HandS.Style
import HandS.TupAny
import HandS.TupMul
import HandS.TupSets
import KE.DataMinMax
import KE.GoesMore
import KE.KDictDisplayH
import KE.SortData
import PySem.Challenge.RW_sumgaps_k07_whole_symmetry
section
set_option Elab.async false
set_option linter.all false
set_option backward.match.sparseCases false
set_option maxRecDepth 100000
namespace G
open PySem L2
abbrev Frg := PySem.W.Frag

/-- plain data of the program -/
inductive D where
  | non
  | bl (b : Bool)
  | int (i : Int)
  | str (x : Str)
  | lst (xs : List D)
  | tup (xs : List D)
  | scr (ns : List Int)
  | dct (ks : List Int)
  | dtb (tab : List (List Int × List Int))
  | cli (rows : List (List Int)) (kept : Int)

/-- a result: a value, an exception's class, or nothing said -/
inductive R (α : Type) where
  | ok (a : α)
  | ex (c : Nat)
  | no

/-! ### how data lies in the heap -/
mutual
inductive Rp (K : Frg) (F : Hp) : V → D → Prop
  | non : Rp K F .non .non
  | bl (b : Bool) : Rp K F (.bl b) (.bl b)
  | int (i : Int) : Rp K F (.int i) (.int i)
  | str (x : Str) : Rp K F (.str x) (.str x)
  | lst {a : Addr} {xs : List V} {ds : List D} : F a = some (.lst xs) → RpA K F xs ds → Rp K F (.ref a) (.lst ds)
  | tup {a : Addr} {xs : List V} {ds : List D} : F a = some (.tup xs) → RpA K F xs ds → Rp K F (.ref a) (.tup ds)
  | scr {a : Addr} {ns : List Int} : SqL K F a (ns.map V.int) → Rp K F (.ref a) (.scr ns)
  | dct {a : Addr} {kvs : List (L2.Key × V)} {ks : List Int} : F a = some (.dK kvs) → (∀ k : Int, (valV kvs (Sum.inl k)).isSome = decide (k ∈ ks)) → Rp K F (.ref a) (.dct ks)
  | dtb {a : Addr} {kvs : List (List L2.Key × V)} {tab : List (List Int × List Int)} : F a = some (.dT kvs) → Paired (fun (p : List L2.Key × V) (t : List Int × List Int) => p.1 = t.1.map Sum.inl ∧ ∃ b, p.2 = .ref b ∧ F b = some (.lst (t.2.map V.int))) kvs tab → Rp K F (.ref a) (.dtb tab)
  | cli {C x dx q : Addr} {vs : List V} {rows : List (List Int)} {kept : Int} : PySem.W.nsIn K mainGlobals "Climber" = some (some (.ref C)) → F x = some (.ins C dx [("steps", .ref q), ("kept", .int kept)]) → F dx = some (.own x) → F q = some (.lst vs) → RpA K F vs (rows.map fun ks => D.tup (ks.map D.int)) → Rp K F (.ref x) (.cli rows kept)
inductive RpA (K : Frg) (F : Hp) : List V → List D → Prop
  | nil : RpA K F [] []
  | cons {v : V} {vs : List V} {d : D} {ds : List D} : Rp K F v d → RpA K F vs ds → RpA K F (v :: vs) (d :: ds)
end

theorem tab_mono {F F' : Hp} (e : Same F F') : ∀ {kvs : List (List L2.Key × V)} {tab : List (List Int × List Int)}, Paired (fun (p : List L2.Key × V) (t : List Int × List Int) => p.1 = t.1.map Sum.inl ∧ ∃ b, p.2 = .ref b ∧ F b = some (.lst (t.2.map V.int))) kvs tab → Paired (fun (p : List L2.Key × V) (t : List Int × List Int) => p.1 = t.1.map Sum.inl ∧ ∃ b, p.2 = .ref b ∧ F' b = some (.lst (t.2.map V.int))) kvs tab
  | _, _, .nil => .nil
  | _, _, .cons h r => .cons ⟨h.1, h.2.imp fun b z => ⟨z.1, e _ _ z.2⟩⟩ (tab_mono e r)
theorem Same.get {H H' : Hp} (e : Same H H') {a : Addr} {o : HO} (h : H a = some o) : H' a = some o := e a o h

mutual
theorem Rp.mono {K : Frg} {F F' : Hp} (e : Same F F') : ∀ {v : V} {d : D}, Rp K F v d → Rp K F' v d
  | _, _, .non => .non
  | _, _, .bl b => .bl b
  | _, _, .int i => .int i
  | _, _, .str x => .str x
  | _, _, .lst h r => .lst (e _ _ h) (RpA.mono e r)
  | _, _, .tup h r => .tup (e _ _ h) (RpA.mono e r)
  | _, _, .scr h => .scr (e.seq h)
  | _, _, .dct h r => .dct (e _ _ h) r
  | _, _, .dtb h r => .dtb (e _ _ h) (tab_mono e r)
  | _, _, .cli h0 h1 h2 h3 r => .cli h0 (e _ _ h1) (e _ _ h2) (e _ _ h3) (RpA.mono e r)
theorem RpA.mono {K : Frg} {F F' : Hp} (e : Same F F') : ∀ {vs : List V} {ds : List D}, RpA K F vs ds → RpA K F' vs ds
  | _, _, .nil => .nil
  | _, _, .cons h r => .cons (Rp.mono e h) (RpA.mono e r)
end

theorem RpA.length {K : Frg} {F : Hp} : ∀ {vs : List V} {ds : List D}, RpA K F vs ds → vs.length = ds.length
  | _, _, .nil => rfl
  | _, _, .cons _ r => by
    show _ + 1 = _ + 1
    rw [RpA.length r]
theorem RpA.get {K : Frg} {F : Hp} : ∀ {vs : List V} {ds : List D} {i : Nat} {d : D}, RpA K F vs ds → ds[i]? = some d → ∃ v, vs[i]? = some v ∧ Rp K F v d
  | _, _, _, _, .nil, e => by simp at e
  | _, _, 0, _, .cons h _, e => by
    simp at e
    subst e
    exact ⟨_, rfl, h⟩
  | _, _, i + 1, d, .cons _ r, e => by
    obtain ⟨v, h1, h2⟩ := RpA.get (i := i) (d := d) r (by simpa using e)
    exact ⟨v, by simpa using h1, h2⟩
theorem RpA.get' {K : Frg} {F : Hp} : ∀ {vs : List V} {ds : List D} {i : Nat} {v : V}, RpA K F vs ds → vs[i]? = some v → ∃ d, ds[i]? = some d ∧ Rp K F v d
  | _, _, _, _, .nil, e => by simp at e
  | _, _, 0, _, .cons h _, e => by
    simp at e
    subst e
    exact ⟨_, rfl, h⟩
  | _, _, i + 1, d, .cons _ r, e => by
    obtain ⟨v, h1, h2⟩ := RpA.get' (i := i) (v := d) r (by simpa using e)
    exact ⟨v, by simpa using h1, h2⟩
theorem RpA.append {K : Frg} {F : Hp} : ∀ {vs ws : List V} {ds es : List D}, RpA K F vs ds → RpA K F ws es → RpA K F (vs ++ ws) (ds ++ es)
  | _, _, _, _, .nil, s => s
  | _, _, _, _, .cons h r, s => .cons h (RpA.append r s)
theorem RpA.set {K : Frg} {F : Hp} {v : V} {d : D} (h : Rp K F v d) : ∀ {vs : List V} {ds : List D} (i : Nat), RpA K F vs ds → RpA K F (vs.set i v) (ds.set i d)
  | _, _, _, .nil => .nil
  | _, _, 0, .cons _ t => .cons h t
  | _, _, i + 1, .cons q t => .cons q (RpA.set h i t)
theorem RpA.take {K : Frg} {F : Hp} : ∀ {vs : List V} {ds : List D} (n : Nat), RpA K F vs ds → RpA K F (vs.take n) (ds.take n)
  | _, _, 0, _ => .nil
  | _, _, _ + 1, .nil => .nil
  | _, _, n + 1, .cons r t => .cons r (RpA.take n t)
theorem RpA.drop {K : Frg} {F : Hp} : ∀ {vs : List V} {ds : List D} (n : Nat), RpA K F vs ds → RpA K F (vs.drop n) (ds.drop n)
  | _, _, 0, r => r
  | _, _, _ + 1, .nil => .nil
  | _, _, n + 1, .cons _ t => RpA.drop n t
theorem RpA.dropLast {K : Frg} {F : Hp} {vs : List V} {ds : List D} (h : RpA K F vs ds) : RpA K F vs.dropLast ds.dropLast := by
  rw [List.dropLast_eq_take, List.dropLast_eq_take, h.length]
  exact h.take _
theorem RpA.reverse {K : Frg} {F : Hp} : ∀ {vs : List V} {ds : List D}, RpA K F vs ds → RpA K F vs.reverse ds.reverse
  | _, _, .nil => .nil
  | _, _, .cons h r => by
    rw [List.reverse_cons, List.reverse_cons]
    exact (RpA.reverse r).append (.cons h .nil)
theorem RpA.replicate {K : Frg} {F : Hp} {v : V} {d : D} (h : Rp K F v d) : ∀ n : Nat, RpA K F (List.replicate n v) (List.replicate n d)
  | 0 => .nil
  | n + 1 => .cons h (RpA.replicate h n)
theorem RpA.ints {K : Frg} {F : Hp} : ∀ ns : List Int, RpA K F (ns.map V.int) (ns.map D.int)
  | [] => .nil
  | n :: ns => .cons (.int n) (RpA.ints ns)
theorem RpA.bls {K : Frg} {F : Hp} : ∀ ns : List Bool, RpA K F (ns.map V.bl) (ns.map D.bl)
  | [] => .nil
  | n :: ns => .cons (.bl n) (RpA.bls ns)
theorem Rp.int_inv {K : Frg} {F : Hp} {v : V} {i : Int} (h : Rp K F v (.int i)) : v = .int i := by cases h; rfl
theorem Rp.bl_inv {K : Frg} {F : Hp} {v : V} {i : Bool} (h : Rp K F v (.bl i)) : v = .bl i := by cases h; rfl
theorem Rp.str_inv {K : Frg} {F : Hp} {v : V} {i : Str} (h : Rp K F v (.str i)) : v = .str i := by cases h; rfl
theorem Rp.non_inv {K : Frg} {F : Hp} {v : V} (h : Rp K F v .non) : v = .non := by cases h; rfl
theorem Rp.lst_inv {K : Frg} {F : Hp} {v : V} {ds : List D} (h : Rp K F v (.lst ds)) : ∃ a xs, v = .ref a ∧ F a = some (.lst xs) ∧ RpA K F xs ds := by
  cases h with
  | lst h r => exact ⟨_, _, rfl, h, r⟩
theorem Rp.tup_inv {K : Frg} {F : Hp} {v : V} {ds : List D} (h : Rp K F v (.tup ds)) : ∃ a xs, v = .ref a ∧ F a = some (.tup xs) ∧ RpA K F xs ds := by
  cases h with
  | tup h r => exact ⟨_, _, rfl, h, r⟩
theorem Rp.scr_inv {K : Frg} {F : Hp} {v : V} {ns : List Int} (h : Rp K F v (.scr ns)) : ∃ a, v = .ref a ∧ SqL K F a (ns.map V.int) := by
  cases h with
  | scr h => exact ⟨_, rfl, h⟩
theorem RpA.ints_inv {K : Frg} {F : Hp} : ∀ {ns : List Int} {vs : List V}, RpA K F vs (ns.map D.int) → vs = ns.map V.int
  | [], _, .nil => rfl
  | n :: ns, _, .cons h r => by
    rw [h.int_inv, RpA.ints_inv r]
    rfl
theorem RpA.bls_inv {K : Frg} {F : Hp} : ∀ {ns : List Bool} {vs : List V}, RpA K F vs (ns.map D.bl) → vs = ns.map V.bl
  | [], _, .nil => rfl
  | n :: ns, _, .cons h r => by
    rw [h.bl_inv, RpA.bls_inv r]
    rfl

/-! ### the heap without the lists that may change -/
def Fz (P : List Addr) (H : Hp) : Hp := fun a => if a ∈ P then none else H a
theorem Fz_in {P : List Addr} {H : Hp} {a : Addr} (h : a ∈ P) : Fz P H a = none := by
  unfold Fz
  rw [if_pos h]
theorem Fz_out {P : List Addr} {H : Hp} {a : Addr} (h : a ∉ P) : Fz P H a = H a := by
  unfold Fz
  rw [if_neg h]
theorem Fz_sub (P : List Addr) (H : Hp) : Same (Fz P H) H := fun a o h => by
  unfold Fz at h
  split at h
  · cases h
  · exact h
theorem Fz_mono {P : List Addr} {H H' : Hp} (h : Same H H') : Same (Fz P H) (Fz P H') := fun a o e => by
  by_cases hp : a ∈ P
  · rw [Fz_in hp] at e
    cases e
  · rw [Fz_out hp] at e ⊢
    exact h _ _ e
theorem Fz_nil (H : Hp) : Fz [] H = H := by
  funext a
  exact Fz_out (by simp)
theorem Fz_upd_in {P : List Addr} {H : Hp} {p : Addr} {o : HO} (h : p ∈ P) : Fz P (upd H p o) = Fz P H := by
  funext a
  by_cases ha : a ∈ P
  · rw [Fz_in ha, Fz_in ha]
  · rw [Fz_out ha, Fz_out ha, upd_ne]
    intro z
    exact ha (z ▸ h)
theorem Fz_less {P Q : List Addr} {H : Hp} (h : ∀ a ∈ Q, a ∈ P) : Same (Fz P H) (Fz Q H) := fun a o e => by
  have h1 : a ∉ P := fun z => by
    rw [Fz_in z] at e
    cases e
  rw [Fz_out h1] at e
  rw [Fz_out fun z => h1 (h a z)]
  exact e
theorem same_new {H : Hp} {p : Addr} {o : HO} (h : H p = none) : Same H (upd H p o) := fun b x e => by
  rw [upd_ne (ne_of_none e h)]
  exact e

/-! ### the state: slots by data -/
inductive SV where
  | un
  | im (d : D)
  | ow (ds : List D)
  | tw
  | gh (k : Nat)
abbrev SD := List SV

/-- the written part, and the things that change though no slot owns them: the town at a, others at c k; gh: all their addresses; inv: what they hold in a state of the world -/
structure Tp (τ : Type) where
  K : Frg
  a : Option Addr
  c : Nat → Option Addr
  gh : Addr → Prop
  inv : τ → List Addr → Hp → Prop
  st : ∀ (n : τ) (P P' : List Addr) (H H' : Hp), inv n P H → (∀ b o, gh b → H b = some o → H' b = some o) → Same (Fz P H) (Fz P' H') → inv n P' H'
/-- nothing of the kind -/
def tp0 (τ : Type) (K : Frg) : Tp τ where
  K := K
  a := none
  c := fun _ => none
  gh := fun _ => False
  inv := fun _ _ _ => True
  st := fun _ _ _ _ _ h _ _ => h
/-- the town alone -/
def tpT (K : Frg) (a : Addr) : Tp Nat where
  K := K
  a := some a
  c := fun _ => none
  gh := fun b => b = a
  inv := fun n _ H => H a = some (.lst (List.replicate n (.int 0)))
  st := fun n P P' H H' h k _ => k a _ rfl h
/-- held, and no tuple -/
structure Pn (o : Option HO) : Prop where
  ne : o ≠ none
  nt : ∀ xs, o ≠ some (.tup xs)
instance {o : Option HO} : CoeFun (Pn o) (fun _ => o ≠ none) := ⟨Pn.ne⟩
theorem Pn.same {o o' : Option HO} (h : Pn o) (e : ∀ x, o = some x → o' = some x) : Pn o' := by
  cases q : o with
  | none => exact absurd q h.ne
  | some x =>
    rw [e x q, ← q]
    exact h
theorem Pn.lst {xs : List V} : Pn (some (.lst xs)) := ⟨(fun z => nomatch z), (fun _ z => nomatch z)⟩
theorem Pn.of {o : Option HO} {x : HO} (h : o = some x) (nt : ∀ xs, x ≠ .tup xs) : Pn o := ⟨(fun z => by rw [h] at z; cases z), (fun xs z => by rw [h] at z; exact nt xs (Option.some.inj z))⟩
structure Rel {τ : Type} (tp : Tp τ) (P : List Addr) (s : SD) (n : τ) (σ : L2.St) (H : Hp) : Prop where
  len : s.length = σ.length
  im : ∀ (i : Nat) (d : D), s[i]? = some (.im d) → ∃ v, σ[i]? = some (some v) ∧ Rp tp.K (Fz P H) v d
  ow : ∀ (i : Nat) (ds : List D), s[i]? = some (.ow ds) → ∃ p xs, σ[i]? = some (some (.ref p)) ∧ p ∈ P ∧ H p = some (.lst xs) ∧ RpA tp.K (Fz P H) xs ds
  inj : ∀ (i j : Nat) (ds es : List D) (p : Addr), s[i]? = some (.ow ds) → s[j]? = some (.ow es) → σ[i]? = some (some (.ref p)) → σ[j]? = some (some (.ref p)) → i = j
  tw : ∀ i : Nat, s[i]? = some .tw → ∃ a, tp.a = some a ∧ σ[i]? = some (some (.ref a))
  gs : ∀ i k : Nat, s[i]? = some (.gh k) → ∃ a, tp.c k = some a ∧ σ[i]? = some (some (.ref a))
  gp : ∀ a, tp.gh a → a ∈ P ∧ ∀ (i : Nat) (ds : List D), s[i]? = some (.ow ds) → σ[i]? ≠ some (some (.ref a))
  iv : tp.inv n P H
  pin : ∀ a ∈ P, Pn (H a)

section
variable {τ : Type} {tp : Tp τ} {P : List Addr} {s : SD} {n : τ} {σ : L2.St} {H H' : Hp}
theorem Rel.grow (r : Rel tp P s n σ H) (e : Same H H') : Rel tp P s n σ H' where
  len := r.len
  im := fun i d h => by
    obtain ⟨v, h1, h2⟩ := r.im i d h
    exact ⟨v, h1, h2.mono (Fz_mono e)⟩
  ow := fun i ds h => by
    obtain ⟨p, xs, h1, h2, h3, h4⟩ := r.ow i ds h
    exact ⟨p, xs, h1, h2, e _ _ h3, h4.mono (Fz_mono e)⟩
  inj := r.inj
  tw := r.tw
  gs := r.gs
  gp := r.gp
  iv := tp.st n P P H H' r.iv (fun b o _ h => e b o h) (Fz_mono e)
  pin := fun a ha => (r.pin a ha).same fun o q => e a o q
theorem Rel.fresh (r : Rel tp P s n σ H) {p : Addr} (h : H p = none) : p ∉ P := fun z => r.pin p z h
end
end G
end

section
set_option Elab.async false
set_option linter.all false
set_option backward.match.sparseCases false
set_option maxRecDepth 100000
namespace G
open PySem L2

def SameT (tp : Tp τ) (H H' : Hp) : Prop := ∀ a o, ¬ tp.gh a → H a = some o → H' a = some o
theorem SameT.refl (tp : Tp τ) (H : Hp) : SameT tp H H := fun _ _ _ h => h
theorem SameT.trans {tp : Tp τ} {H H1 H2 : Hp} (a : SameT tp H H1) (b : SameT tp H1 H2) : SameT tp H H2 := fun x o ht h => b x o ht (a x o ht h)
theorem Same.toT {tp : Tp τ} {H H' : Hp} (e : Same H H') : SameT tp H H' := fun a o _ h => e a o h

section
variable {tp : Tp τ} {P : List Addr} {s : SD} {n : τ} {σ : L2.St} {H H' : Hp}
theorem Rel.fz (r : Rel tp P s n σ H) (e : SameT tp H H') : Same (Fz P H) (Fz P H') := fun a o h => by
  have ha : a ∉ P := fun z => by
    rw [Fz_in z] at h
    cases h
  rw [Fz_out ha] at h ⊢
  exact e a o (fun z => ha (r.gp a z).1) h
end

/-! ### results -/
inductive AV where
  | d (x : D)
  | tw
  | gh (k : Nat)
abbrev SEg (τ : Type) := SD → τ → R (D × τ)
abbrev STg (τ : Type) := SD → τ → R (Bool × τ)
abbrev SAg (τ : Type) := SD → τ → R (List AV × τ)
abbrev SIg (τ : Type) := SD → τ → R (List D × τ)
abbrev SOg (τ : Type) := SD → τ → R (Option Int × τ)
abbrev EC := Nat → Hp → Prop
inductive FLg (τ : Type) where
  | nx (s : SD) (n : τ)
  | rt (d : D) (n : τ)
  | bk (s : SD) (n : τ)
  | ct (s : SD) (n : τ)
  | ex (c : Nat)
  | no
abbrev SSg (τ : Type) := SD → τ → FLg τ
abbrev SE := SEg Nat
abbrev ST := STg Nat
abbrev SA := SAg Nat
abbrev SI := SIg Nat
abbrev SO := SOg Nat
abbrev SS := SSg Nat
abbrev FL := FLg Nat

def bindE {α β : Type} (r : R (α × τ)) (k : α → τ → R (β × τ)) : R (β × τ) :=
  match r with
  | .ok (a, n) => k a n
  | .ex c => .ex c
  | .no => .no
def bindS {α : Type} (r : R (α × τ)) (k : α → τ → FLg τ) : FLg τ :=
  match r with
  | .ok (a, n) => k a n
  | .ex c => .ex c
  | .no => .no
def optE {α : Type} (o : Option α) (n : τ) : R (α × τ) :=
  match o with
  | some a => .ok (a, n)
  | none => .no

def Post {α β : Type} (rep : Hp → β → α → Prop) (tp : Tp τ) (Ec : EC) (P : List Addr) (s : SD) (σ : L2.St) (H : Hp) (r : R (α × τ)) (Q : β → Hp → Prop) : Prop :=
  match r with
  | .ok (d, n) => ∀ v H', Rel tp P s n σ H' → SameT tp H H' → rep (Fz P H') v d → Q v H'
  | .ex c => ∀ H', SameT tp H H' → Ec c H'
  | .no => False

theorem Post.shift {α β : Type} {rep : Hp → β → α → Prop} {tp : Tp τ} {Ec : EC} {P : List Addr} {s : SD} {σ : L2.St} {H H1 : Hp} {r : R (α × τ)} {Q : β → Hp → Prop} (h : Post rep tp Ec P s σ H r Q) (e : SameT tp H H1) : Post rep tp Ec P s σ H1 r Q := by
  cases r with
  | ok x => exact fun v H' hr e' hv => h v H' hr (e.trans e') hv
  | ex c => exact fun H' e' => h H' (e.trans e')
  | no => exact h
theorem Post.bind {α β γ δ : Type} {rep : Hp → β → α → Prop} {rep' : Hp → δ → γ → Prop} {tp : Tp τ} {Ec : EC} {P : List Addr} {s : SD} {σ : L2.St} {H : Hp} {r : R (α × τ)} {k : α → τ → R (γ × τ)} {Q : δ → Hp → Prop} {Q1 : β → Hp → Prop}
    (hq : Post rep' tp Ec P s σ H (bindE r k) Q)
    (h : ∀ a n1 v H1, Rel tp P s n1 σ H1 → SameT tp H H1 → rep (Fz P H1) v a → Post rep' tp Ec P s σ H1 (k a n1) Q → Q1 v H1) : Post rep tp Ec P s σ H r Q1 := by
  cases r with
  | ok x => exact fun v H' hr e' hv => h _ _ v H' hr e' hv (Post.shift hq e')
  | ex c => exact hq
  | no => exact hq

/-- nothing changes but that the heap grows -/
theorem Post.pure {α β : Type} {rep : Hp → β → α → Prop} {tp : Tp τ} {Ec : EC} {P : List Addr} {s : SD} {σ : L2.St} {H H' : Hp} {d : α} {n : τ} {Q : β → Hp → Prop} {v : β} (hq : Post rep tp Ec P s σ H (.ok (d, n)) Q) (hr : Rel tp P s n σ H) (e : Same H H') (hv : rep (Fz P H') v d) : Q v H' :=
  hq v H' (hr.grow e) (Same.toT e) hv
theorem Post.same {α β : Type} {rep : Hp → β → α → Prop} {tp : Tp τ} {Ec : EC} {P : List Addr} {s : SD} {σ : L2.St} {H : Hp} {d : α} {n : τ} {Q : β → Hp → Prop} {v : β} (hq : Post rep tp Ec P s σ H (.ok (d, n)) Q) (hr : Rel tp P s n σ H) (hv : rep (Fz P H) v d) : Q v H :=
  hq v H hr (SameT.refl tp H) hv

def rpB : Hp → Bool → Bool → Prop := fun _ a b => a = b
inductive RpV {τ : Type} (tp : Tp τ) (F : Hp) : V → AV → Prop
  | d {v : V} {x : D} : Rp tp.K F v x → RpV tp F v (.d x)
  | tw {a : Addr} : tp.a = some a → RpV tp F (.ref a) .tw
  | gh {k : Nat} {a : Addr} : tp.c k = some a → RpV tp F (.ref a) (.gh k)
def RpVs (tp : Tp τ) (F : Hp) : List V → List AV → Prop := Paired (RpV tp F)
theorem RpV.mono {tp : Tp τ} {F F' : Hp} (e : Same F F') {v : V} {x : AV} (h : RpV tp F v x) : RpV tp F' v x := by
  cases h with
  | d h => exact .d (h.mono e)
  | tw h => exact .tw h
  | gh h => exact .gh h
theorem RpVs.mono {tp : Tp τ} {F F' : Hp} (e : Same F F') : ∀ {v : List V} {x : List AV}, RpVs tp F v x → RpVs tp F' v x
  | _, _, .nil => .nil
  | _, _, .cons h r => .cons (h.mono e) (RpVs.mono e r)
def rpO : Hp → Option Int → Option Int → Prop := fun _ a b => a = b

def SimE (tp : Tp τ) (Ec : EC) (te : TE) (f : SEg τ) : Prop := ∀ (P : List Addr) (s : SD) (n : τ) (σ : L2.St) (H : Hp), Rel tp P s n σ H → ∀ Q : VK, Post (Rp tp.K) tp Ec P s σ H (f s n) Q → te σ H Q
def SimT (tp : Tp τ) (Ec : EC) (te : TT) (f : STg τ) : Prop := ∀ (P : List Addr) (s : SD) (n : τ) (σ : L2.St) (H : Hp), Rel tp P s n σ H → ∀ Q : Bool → Hp → Prop, Post rpB tp Ec P s σ H (f s n) Q → te σ H Q
def SimA (tp : Tp τ) (Ec : EC) (te : TA) (f : SAg τ) : Prop := ∀ (P : List Addr) (s : SD) (n : τ) (σ : L2.St) (H : Hp), Rel tp P s n σ H → ∀ Q : List V → Hp → Prop, Post (RpVs tp) tp Ec P s σ H (f s n) Q → te σ H Q
def SimO (tp : Tp τ) (Ec : EC) (te : TO) (f : SOg τ) : Prop := ∀ (P : List Addr) (s : SD) (n : τ) (σ : L2.St) (H : Hp), Rel tp P s n σ H → ∀ Q : Option Int → Hp → Prop, Post rpO tp Ec P s σ H (f s n) Q → te σ H Q

/-! ### expressions -/
section
variable {tp : Tp τ} {Ec : EC} {ta tb tc te : TE} {fa fb fc fe : SEg τ} {tt tu : TT} {ft fu : STg τ}
def sVar (i : Nat) : SEg τ := fun s n => match s[i]? with
  | some (.im d) => .ok (d, n)
  | _ => .no
theorem sim_var (i : Nat) : SimE tp Ec (tVar i) (sVar i) := fun P s n σ H hr Q hq => by
  unfold sVar at hq
  cases e : s[i]? with
  | none =>
    rw [e] at hq
    exact False.elim hq
  | some x =>
    rw [e] at hq
    cases x with
    | im d =>
      obtain ⟨v, h1, h2⟩ := hr.im i d e
      exact ⟨v, h1, hq.same hr h2⟩
    | un => exact False.elim hq
    | ow _ => exact False.elim hq
    | gh _ => exact False.elim hq
    | tw => exact False.elim hq
def sC (d : D) : SEg τ := fun _ n => .ok (d, n)
theorem sim_int (i : Int) : SimE tp Ec (tC (.int i)) (sC (.int i)) := fun P s n σ H hr Q hq => hq.same hr (.int i)
theorem sim_bl (i : Bool) : SimE tp Ec (tC (.bl i)) (sC (.bl i)) := fun P s n σ H hr Q hq => hq.same hr (.bl i)
theorem sim_str (i : Str) : SimE tp Ec (tC (.str i)) (sC (.str i)) := fun P s n σ H hr Q hq => hq.same hr (.str i)
theorem sim_non : SimE tp Ec (tC .non) (sC .non) := fun P s n σ H hr Q hq => hq.same hr .non

def OpS (K : Frg) (r : R2) (g : D → D → Option D) : Prop := ∀ (P : List Addr) (x y : V) (d e z : D) (H : Hp) (Q : VK), (∀ a ∈ P, Pn (H a)) → Rp K (Fz P H) x d → Rp K (Fz P H) y e → g d e = some z → (∀ v H', Same H H' → Rp K (Fz P H') v z → Q v H') → r x y H Q
def UnS (K : Frg) (r : V → Hp → VK → Prop) (g : D → Option D) : Prop := ∀ (P : List Addr) (x : V) (d z : D) (H : Hp) (Q : VK), (∀ a ∈ P, Pn (H a)) → Rp K (Fz P H) x d → g d = some z → (∀ v H', Same H H' → Rp K (Fz P H') v z → Q v H') → r x H Q
def sOp (g : D → D → Option D) (fa fb : SEg τ) : SEg τ := fun s n => bindE (fa s n) fun x n1 => bindE (fb s n1) fun y n2 => optE (g x y) n2
def sUn (g : D → Option D) (fa : SEg τ) : SEg τ := fun s n => bindE (fa s n) fun x n1 => optE (g x) n1
theorem Post.opt {P : List Addr} {s : SD} {n : τ} {σ : L2.St} {H : Hp} {o : Option D} {Q : VK} (hq : Post (Rp tp.K) tp Ec P s σ H (optE o n) Q) (hr : Rel tp P s n σ H) : ∃ z, o = some z ∧ ∀ v H', Same H H' → Rp tp.K (Fz P H') v z → Q v H' := by
  cases o with
  | none => exact False.elim hq
  | some z => exact ⟨z, rfl, fun v H' e hv => hq.pure hr e hv⟩
theorem sim_op {r : R2} {g : D → D → Option D} (hr : OpS tp.K r g) (ha : SimE tp Ec ta fa) (hb : SimE tp Ec tb fb) : SimE tp Ec (tOp r ta tb) (sOp g fa fb) := fun P s n σ H h Q hq =>
  ha P s n σ H h _ (hq.bind fun x n1 v H1 h1 e1 r1 q1 => hb P s n1 σ H1 h1 _ (q1.bind fun y n2 u H2 h2 e2 r2 q2 => by
    obtain ⟨z, hz, q⟩ := q2.opt h2
    exact hr P v u x y z H2 Q h2.pin (r1.mono (h1.fz e2)) r2 hz q))
theorem sim_un {r : V → Hp → VK → Prop} {g : D → Option D} (hr : UnS tp.K r g) (ha : SimE tp Ec ta fa) : SimE tp Ec (tUn r ta) (sUn g fa) := fun P s n σ H h Q hq =>
  ha P s n σ H h _ (hq.bind fun x n1 v H1 h1 e1 r1 q1 => by
    obtain ⟨z, hz, q⟩ := q1.opt h1
    exact hr P v x z H1 Q h1.pin r1 hz q)

/-! tests -/
def asB : D → Option Bool
  | .bl b => some b
  | _ => none
def sTest (fa : SEg τ) : STg τ := fun s n => bindE (fa s n) fun x n1 => optE (asB x) n1
theorem asB_some {d : D} {b : Bool} (h : asB d = some b) : d = .bl b := by
  cases d <;> first | (cases h; done) | (cases h; rfl)
theorem Post.optB {P : List Addr} {s : SD} {n : τ} {σ : L2.St} {H : Hp} {o : Option Bool} {Q : Bool → Hp → Prop} (hq : Post rpB tp Ec P s σ H (optE o n) Q) (hr : Rel tp P s n σ H) : ∃ z, o = some z ∧ Q z H := by
  cases o with
  | none => exact False.elim hq
  | some z => exact ⟨z, rfl, hq.same hr rfl⟩
theorem sim_test (ha : SimE tp Ec ta fa) : SimT tp Ec (tTest ta) (sTest fa) := fun P s n σ H h Q hq =>
  ha P s n σ H h _ (hq.bind fun x n1 v H1 h1 e1 r1 q1 => by
    obtain ⟨z, hz, q⟩ := q1.optB h1
    rw [asB_some hz] at r1
    exact ⟨z, r1.bl_inv, q⟩)
theorem sim_B (ha : SimE tp Ec ta fa) : SimT tp Ec (tB ta) (sTest fa) := fun P s n σ H h Q hq =>
  ha P s n σ H h _ (hq.bind fun x n1 v H1 h1 e1 r1 q1 => by
    obtain ⟨z, hz, q⟩ := q1.optB h1
    rw [asB_some hz] at r1
    exact ⟨z, r1.bl_inv, q⟩)
def sAnd (ft fu : STg τ) : STg τ := fun s n => bindE (ft s n) fun c n1 => match c with
  | true => fu s n1
  | false => .ok (false, n1)
def sOr (ft fu : STg τ) : STg τ := fun s n => bindE (ft s n) fun c n1 => match c with
  | true => .ok (true, n1)
  | false => fu s n1
def sNot (ft : STg τ) : STg τ := fun s n => bindE (ft s n) fun c n1 => .ok (!c, n1)
theorem sim_and (h1 : SimT tp Ec tt ft) (h2 : SimT tp Ec tu fu) : SimT tp Ec (tAnd tt tu) (sAnd ft fu) := fun P s n σ H h Q hq =>
  h1 P s n σ H h _ (hq.bind fun x n1 v H1 g1 e1 r1 q1 => by
    cases (show v = x from r1)
    cases x with
    | true =>
      rw [if_pos rfl]
      exact h2 P s n1 σ H1 g1 _ q1
    | false =>
      rw [if_neg Bool.false_ne_true]
      exact q1.same g1 rfl)
theorem sim_or (h1 : SimT tp Ec tt ft) (h2 : SimT tp Ec tu fu) : SimT tp Ec (tOr tt tu) (sOr ft fu) := fun P s n σ H h Q hq =>
  h1 P s n σ H h _ (hq.bind fun x n1 v H1 g1 e1 r1 q1 => by
    cases (show v = x from r1)
    cases x with
    | true =>
      rw [if_pos rfl]
      exact q1.same g1 rfl
    | false =>
      rw [if_neg Bool.false_ne_true]
      exact h2 P s n1 σ H1 g1 _ q1)
theorem sim_not (h1 : SimT tp Ec tt ft) : SimT tp Ec (tNot tt) (sNot ft) := fun P s n σ H h Q hq =>
  h1 P s n σ H h _ (hq.bind fun x n1 v H1 g1 e1 r1 q1 => by
    cases (show v = x from r1)
    exact q1.same g1 rfl)
/-! and, or, not as values -/
def sAndV (fa fb : SEg τ) : SEg τ := fun s n => bindE (fa s n) fun x n1 => match x with
  | .bl true => fb s n1
  | .bl false => .ok (.bl false, n1)
  | _ => .no
def sOrV (fa fb : SEg τ) : SEg τ := fun s n => bindE (fa s n) fun x n1 => match x with
  | .bl false => fb s n1
  | .bl true => .ok (.bl true, n1)
  | _ => .no
def sNotV (fa : SEg τ) : SEg τ := sUn (fun x => match x with
  | .bl b => some (.bl (!b))
  | _ => none) fa
theorem sim_andV (ha : SimE tp Ec ta fa) (hb : SimE tp Ec tb fb) : SimE tp Ec (tAndV ta tb) (sAndV fa fb) := fun P s n σ H h Q hq =>
  ha P s n σ H h _ (hq.bind fun x n1 v H1 g1 e1 r1 q1 => by
    cases x with
    | bl b =>
      cases r1.bl_inv
      cases b with
      | true => exact ⟨true, rfl, by rw [if_pos rfl]; exact hb P s n1 σ H1 g1 _ q1⟩
      | false => exact ⟨false, rfl, by rw [if_neg Bool.false_ne_true]; exact q1.same g1 (.bl false)⟩
    | _ => exact False.elim q1)
theorem sim_orV (ha : SimE tp Ec ta fa) (hb : SimE tp Ec tb fb) : SimE tp Ec (tOrV ta tb) (sOrV fa fb) := fun P s n σ H h Q hq =>
  ha P s n σ H h _ (hq.bind fun x n1 v H1 g1 e1 r1 q1 => by
    cases x with
    | bl b =>
      cases r1.bl_inv
      cases b with
      | true => exact ⟨true, rfl, by rw [if_pos rfl]; exact q1.same g1 (.bl true)⟩
      | false => exact ⟨false, rfl, by rw [if_neg Bool.false_ne_true]; exact hb P s n1 σ H1 g1 _ q1⟩
    | _ => exact False.elim q1)
theorem sim_notV (ha : SimE tp Ec ta fa) : SimE tp Ec (tNotV ta) (sNotV fa) := fun P s n σ H h Q hq =>
  ha P s n σ H h _ (hq.bind fun x n1 v H1 g1 e1 r1 q1 => by
    cases x with
    | bl b =>
      cases r1.bl_inv
      exact ⟨b, rfl, q1.same g1 (.bl (!b))⟩
    | _ => exact False.elim q1)
def sIf (ft : STg τ) (fa fb : SEg τ) : SEg τ := fun s n => bindE (ft s n) fun c n1 => match c with
  | true => fa s n1
  | false => fb s n1
theorem sim_if (h1 : SimT tp Ec tt ft) (ha : SimE tp Ec ta fa) (hb : SimE tp Ec tb fb) : SimE tp Ec (tIf tt ta tb) (sIf ft fa fb) := fun P s n σ H h Q hq =>
  h1 P s n σ H h _ (hq.bind fun x n1 v H1 g1 e1 r1 q1 => by
    cases (show v = x from r1)
    cases x with
    | true =>
      rw [if_pos rfl]
      exact ha P s n1 σ H1 g1 _ q1
    | false =>
      rw [if_neg Bool.false_ne_true]
      exact hb P s n1 σ H1 g1 _ q1)
def sChain (g g' : D → D → Option D) (fa fb fc : SEg τ) : SEg τ := fun s n => bindE (fa s n) fun x n1 => bindE (fb s n1) fun y n2 => match g x y with
  | some (.bl true) => bindE (fc s n2) fun z n3 => optE (g' y z) n3
  | some (.bl false) => .ok (.bl false, n2)
  | _ => .no
theorem sim_chain {r r' : R2} {g g' : D → D → Option D} (hr : OpS tp.K r g) (hr' : OpS tp.K r' g') (ha : SimE tp Ec ta fa) (hb : SimE tp Ec tb fb) (hc : SimE tp Ec tc fc) : SimE tp Ec (tChain r r' ta tb tc) (sChain g g' fa fb fc) := fun P s n σ H h Q hq =>
  ha P s n σ H h _ (hq.bind fun x n1 v H1 h1 e1 r1 q1 => hb P s n1 σ H1 h1 _ (q1.bind fun y n2 u H2 h2 e2 r2 q2 => by
    cases hg : g x y with
    | none =>
      rw [hg] at q2
      exact False.elim q2
    | some z =>
      rw [hg] at q2
      refine hr P v u x y z H2 _ h2.pin (r1.mono (h1.fz e2)) r2 hg fun w H3 e3 r3 => ?_
      cases z with
      | bl b =>
        cases r3.bl_inv
        refine ⟨b, rfl, ?_⟩
        have h3 := h2.grow e3
        cases b with
        | true =>
          rw [if_pos rfl]
          refine hc P s n2 σ H3 h3 _ ((q2.shift (Same.toT e3)).bind fun z n3 w4 H4 h4 e4 r4 q4 => ?_)
          obtain ⟨z4, hz, q⟩ := q4.opt h4
          exact hr' P u w4 y z z4 H4 Q h4.pin ((r2.mono (Fz_mono e3)).mono (h3.fz e4)) r4 hz q
        | false =>
          rw [if_neg Bool.false_ne_true]
          exact q2.pure h2 e3 (.bl false)
      | _ => exact False.elim q2))

/-! ### arguments, displays, calls of built-ins by name -/
def sNil : SAg τ := fun _ n => .ok ([], n)
def sCons (fa : SEg τ) (fr : SAg τ) : SAg τ := fun s n => bindE (fa s n) fun x n1 => bindE (fr s n1) fun xs n2 => .ok (.d x :: xs, n2)
def sConsTw (i : Nat) (fr : SAg τ) : SAg τ := fun s n => match s[i]? with
  | some .tw => bindE (fr s n) fun xs n2 => .ok (.tw :: xs, n2)
  | _ => .no
theorem sim_nil : SimA tp Ec tNil sNil := fun P s n σ H h Q hq => hq.same h .nil
theorem sim_cons {tr : TA} {fr : SAg τ} (ha : SimE tp Ec ta fa) (hr : SimA tp Ec tr fr) : SimA tp Ec (tCons ta tr) (sCons fa fr) := fun P s n σ H h Q hq =>
  ha P s n σ H h _ (hq.bind fun x n1 v H1 h1 e1 r1 q1 => hr P s n1 σ H1 h1 _ (q1.bind fun y n2 u H2 h2 e2 r2 q2 =>
    q2.same h2 (.cons (.d (r1.mono (h1.fz e2))) r2)))
theorem sim_consTw {tr : TA} {fr : SAg τ} (i : Nat) (hr : SimA tp Ec tr fr) : SimA tp Ec (tCons (tVar i) tr) (sConsTw i fr) := fun P s n σ H h Q hq => by
  unfold sConsTw at hq
  cases e : s[i]? with
  | none =>
    rw [e] at hq
    exact False.elim hq
  | some x =>
    rw [e] at hq
    cases x with
    | tw =>
      obtain ⟨a, ha, hs⟩ := h.tw i e
      refine ⟨.ref a, hs, hr P s n σ H h _ (hq.bind fun y n2 u H2 h2 e2 r2 q2 => q2.same h2 (.cons (.tw ha) r2))⟩
    | un => exact False.elim hq
    | ow _ => exact False.elim hq
    | gh _ => exact False.elim hq
    | im _ => exact False.elim hq
def sConsGh (i : Nat) (fr : SAg τ) : SAg τ := fun s n => match s[i]? with
  | some (.gh k) => bindE (fr s n) fun xs n2 => .ok (.gh k :: xs, n2)
  | _ => .no
theorem sim_consGh {tr : TA} {fr : SAg τ} (i : Nat) (hr : SimA tp Ec tr fr) : SimA tp Ec (tCons (tVar i) tr) (sConsGh i fr) := fun P s n σ H h Q hq => by
  unfold sConsGh at hq
  cases e : s[i]? with
  | none =>
    rw [e] at hq
    exact False.elim hq
  | some x =>
    rw [e] at hq
    cases x with
    | gh k =>
      obtain ⟨a, ha, hs⟩ := h.gs i k e
      refine ⟨.ref a, hs, hr P s n σ H h _ (hq.bind fun y n2 u H2 h2 e2 r2 q2 => q2.same h2 (.cons (.gh ha) r2))⟩
    | un => exact False.elim hq
    | ow _ => exact False.elim hq
    | tw => exact False.elim hq
    | im _ => exact False.elim hq
/-- the arguments as plain data -/
def plain : List AV → Option (List D)
  | [] => some []
  | .d x :: r => (plain r).map (x :: ·)
  | .tw :: _ => none
  | .gh _ :: _ => none
theorem plain_rp {tp : Tp τ} {F : Hp} : ∀ {vs : List V} {as : List AV} {ds : List D}, RpVs tp F vs as → plain as = some ds → RpA tp.K F vs ds
  | _, [], _, .nil, h => by cases h; exact .nil
  | _, .d x :: r, _, .cons (.d hx) hr, h => by
    unfold plain at h
    cases e : plain r with
    | none =>
      rw [e] at h
      cases h
    | some ys =>
      rw [e] at h
      cases h
      exact .cons hx (plain_rp hr e)
  | _, .tw :: _, _, _, h => by cases h
  | _, .gh _ :: _, _, _, h => by cases h
def big : Nat := 10000000
theorem big_le {n : Nat} (h : n < big) : n ≤ sizeLine := Nat.le_trans (Nat.le_of_lt h) (by decide)
theorem big_lt {n : Nat} (h : n < big) : n < sizeLine := Nat.lt_of_lt_of_le h (by decide)
def sTup (fr : SAg τ) : SEg τ := fun s n => bindE (fr s n) fun xs n1 => match plain xs with
  | some ds => if ds.length < big then .ok (.tup ds, n1) else .no
  | none => .no
def sLst (fr : SAg τ) : SEg τ := fun s n => bindE (fr s n) fun xs n1 => match plain xs with
  | some ds => if ds.length < big then .ok (.lst ds, n1) else .no
  | none => .no
theorem Fz_new {tp : Tp τ} {P : List Addr} {s : SD} {n : τ} {σ : L2.St} {H : Hp} {p : Addr} {o : HO} (r : Rel tp P s n σ H) (h : H p = none) : Fz P (upd H p o) p = some o := by
  rw [Fz_out (r.fresh h), upd_same]
theorem sim_tup {tr : TA} {fr : SAg τ} (hr : SimA tp Ec tr fr) : SimE tp Ec (tTup tr) (sTup fr) := fun P s n σ H h Q hq =>
  hr P s n σ H h _ (hq.bind fun xs n1 vs H1 h1 e1 r1 q1 => by
    cases e : plain xs with
    | none =>
      rw [e] at q1
      exact False.elim q1
    | some ds =>
      rw [e] at q1
      have ra := plain_rp r1 e
      dsimp only at q1
      split at q1
      · rename_i hb
        refine ⟨by rw [ra.length]; exact big_le hb, fun p hp => q1.pure h1 (same_new hp) (.tup (Fz_new h1 hp) (ra.mono (Fz_mono (same_new hp))))⟩
      · exact False.elim q1)
theorem sim_lst {tr : TA} {fr : SAg τ} (hr : SimA tp Ec tr fr) : SimE tp Ec (tLst tr) (sLst fr) := fun P s n σ H h Q hq =>
  hr P s n σ H h _ (hq.bind fun xs n1 vs H1 h1 e1 r1 q1 => by
    cases e : plain xs with
    | none =>
      rw [e] at q1
      exact False.elim q1
    | some ds =>
      rw [e] at q1
      have ra := plain_rp r1 e
      dsimp only at q1
      split at q1
      · rename_i hb
        refine ⟨by rw [ra.length]; exact big_le hb, fun p hp => q1.pure h1 (same_new hp) (.lst (Fz_new h1 hp) (ra.mono (Fz_mono (same_new hp))))⟩
      · exact False.elim q1)
/-- a built-in by name, over plain data -/
def CbS (K : Frg) (r : List V → Hp → VK → Prop) (g : List D → Option D) : Prop := ∀ (P : List Addr) (xs : List V) (ds : List D) (z : D) (H : Hp) (Q : VK), (∀ a ∈ P, Pn (H a)) → RpA K (Fz P H) xs ds → g ds = some z → (∀ v H', Same H H' → Rp K (Fz P H') v z → Q v H') → r xs H Q
def sCb (g : List D → Option D) (fr : SAg τ) : SEg τ := fun s n => bindE (fr s n) fun xs n1 => optE ((plain xs).bind g) n1
theorem sim_cb {r : List V → Hp → VK → Prop} {g : List D → Option D} {tr : TA} {fr : SAg τ} (hg : CbS tp.K r g) (hr : SimA tp Ec tr fr) : SimE tp Ec (tCB r tr) (sCb g fr) := fun P s n σ H h Q hq =>
  hr P s n σ H h _ (hq.bind fun xs n1 vs H1 h1 e1 r1 q1 => by
    obtain ⟨z, hz, q⟩ := q1.opt h1
    cases e : plain xs with
    | none =>
      rw [e] at hz
      cases hz
    | some ds =>
      rw [e] at hz
      exact hg P vs ds z H1 Q h1.pin (plain_rp r1 e) hz q)
/-! ### slices -/
def asI : D → Option Int
  | .int i => some i
  | _ => none
def sNoPart : SOg τ := fun _ n => .ok (none, n)
def sPart (fa : SEg τ) : SOg τ := fun s n => bindE (fa s n) fun x n1 => optE ((asI x).map some) n1
theorem sim_noPart : SimO tp Ec tNoPart sNoPart := fun P s n σ H h Q hq => hq.same h rfl
theorem sim_part (ha : SimE tp Ec ta fa) : SimO tp Ec (tPart ta) (sPart fa) := fun P s n σ H h Q hq =>
  ha P s n σ H h _ (hq.bind fun x n1 v H1 h1 e1 r1 q1 => by
    cases x with
    | int i => exact ⟨i, r1.int_inv, q1.same h1 rfl⟩
    | _ => exact False.elim q1)
def SlS (K : Frg) (r : V → Option Int → Option Int → Hp → VK → Prop) (g : D → Option Int → Option Int → Option D) : Prop := ∀ (P : List Addr) (x : V) (lo hi : Option Int) (d z : D) (H : Hp) (Q : VK), (∀ a ∈ P, Pn (H a)) → Rp K (Fz P H) x d → g d lo hi = some z → (∀ v H', Same H H' → Rp K (Fz P H') v z → Q v H') → r x lo hi H Q
def sSl (g : D → Option Int → Option Int → Option D) (fe : SEg τ) (fl fh : SOg τ) : SEg τ := fun s n => bindE (fe s n) fun x n1 => bindE (fl s n1) fun lo n2 => bindE (fh s n2) fun hi n3 => optE (g x lo hi) n3
theorem sim_sl {r : V → Option Int → Option Int → Hp → VK → Prop} {g : D → Option Int → Option Int → Option D} {tl th : TO} {fl fh : SOg τ} (hr : SlS tp.K r g) (he : SimE tp Ec te fe) (hl : SimO tp Ec tl fl) (hh : SimO tp Ec th fh) : SimE tp Ec (tSl r te tl th) (sSl g fe fl fh) := fun P s n σ H h Q hq =>
  he P s n σ H h _ (hq.bind fun x n1 v H1 h1 e1 r1 q1 => hl P s n1 σ H1 h1 _ (q1.bind fun lo n2 lo' H2 h2 e2 r2 q2 => hh P s n2 σ H2 h2 _ (q2.bind fun hi n3 hi' H3 h3 e3 r3 q3 => by
    obtain ⟨z, hz, q⟩ := q3.opt h3
    cases (show lo' = lo from r2)
    cases (show hi' = hi from r3)
    exact hr P v lo hi x z H3 Q h3.pin (r1.mono (h1.fz (e2.trans e3))) hz q)))
end
end G
end

section
set_option Elab.async false
set_option linter.all false
set_option backward.match.sparseCases false
set_option maxRecDepth 100000
namespace G
open PySem L2

structure BRel {τ : Type} (tp : Tp τ) (B : Hp) (P0 P : List Addr) (s : SD) (n : τ) (σ : L2.St) (H : Hp) : Prop where
  rel : Rel tp P s n σ H
  sm : Same B H
  sub : ∀ a ∈ P0, a ∈ P
  new : ∀ a ∈ P, a ∈ P0 ∨ B a = none
  own : ∀ (i : Nat) (ds : List D) (p : Addr), s[i]? = some (.ow ds) → σ[i]? = some (some (.ref p)) → B p = none ∧ p ∉ P0
  twn : ∀ a, tp.gh a → B a = none
section
variable {tp : Tp τ} {B B1 : Hp} {P0 P : List Addr} {s : SD} {n n' : τ} {σ : L2.St} {H H' : Hp}
theorem BRel.grow (b : BRel tp B P0 P s n σ H) (r : Rel tp P s n' σ H') (e : SameT tp H H') : BRel tp B P0 P s n' σ H' :=
  ⟨r, fun a o h => e a o (fun z => by rw [b.twn a z] at h; cases h) (b.sm a o h), b.sub, b.new, b.own, b.twn⟩
theorem BRel.less (b : BRel tp B1 P0 P s n σ H) (e : Same B B1) : BRel tp B P0 P s n σ H where
  rel := b.rel
  sm := e.trans b.sm
  sub := b.sub
  new := fun a ha => (b.new a ha).imp (fun h => h) fun h => e.free h
  own := fun i ds p h1 h2 => ⟨e.free (b.own i ds p h1 h2).1, (b.own i ds p h1 h2).2⟩
  twn := fun a h => e.free (b.twn a h)
/-- the base with all that stands still now -/
def more (B : Hp) (P : List Addr) (H : Hp) : Hp := fun a => match B a with
  | some o => some o
  | none => Fz P H a
theorem more_sub (B : Hp) (P : List Addr) (H : Hp) : Same B (more B P H) := fun a o h => by
  unfold more
  rw [h]
theorem more_fz (b : BRel tp B P0 P s n σ H) : Same (Fz P H) (more B P H) := fun a o h => by
  unfold more
  cases e : B a with
  | none => exact h
  | some o' => exact ((b.sm a o' e).symm.trans (Fz_sub P H a o h))
theorem BRel.more (b : BRel tp B P0 P s n σ H) : BRel tp (more B P H) P0 P s n σ H where
  rel := b.rel
  sm := fun a o h => by
    unfold G.more at h
    cases e : B a with
    | none =>
      rw [e] at h
      exact Fz_sub P H a o h
    | some o' =>
      rw [e] at h
      cases h
      exact b.sm a _ e
  sub := b.sub
  new := fun a ha => (b.new a ha).imp (fun h => h) fun h => by
    unfold G.more
    rw [h]
    exact Fz_in ha
  own := fun i ds p h1 h2 => by
    obtain ⟨q1, q2⟩ := b.own i ds p h1 h2
    refine ⟨?_, q2⟩
    unfold G.more
    rw [q1]
    obtain ⟨p', xs, e1, e2, _⟩ := b.rel.ow i ds h1
    rw [e1] at h2
    cases h2
    exact Fz_in e2
  twn := fun a h => by
    unfold G.more
    rw [b.twn a h]
    exact Fz_in (b.rel.gp a h).1
end

def PostS (tp : Tp τ) (Ec : EC) (B : Hp) (P0 : List Addr) (r : FLg τ) (K : Ends) : Prop :=
  match r with
  | .nx s n => ∀ P σ H, BRel tp B P0 P s n σ H → K.nx σ H
  | .bk s n => ∀ P σ H, BRel tp B P0 P s n σ H → K.bk σ H
  | .ct s n => ∀ P σ H, BRel tp B P0 P s n σ H → K.ct σ H
  | .rt d n => ∀ v H, Same B H → tp.inv n P0 H → (∀ a ∈ P0, Pn (H a)) → Rp tp.K (Fz P0 H) v d → K.rt v H
  | .ex c => ∀ H, Same B H → Ec c H
  | .no => False
def SimS (tp : Tp τ) (Ec : EC) (ts : TS) (f : SSg τ) : Prop := ∀ (B : Hp) (P0 P : List Addr) (s : SD) (n : τ) (σ : L2.St) (H : Hp), BRel tp B P0 P s n σ H → ∀ K : Ends, PostS tp Ec B P0 (f s n) K → ts K σ H
def SimI (tp : Tp τ) (Ec : EC) (wi : TI) (f : SIg τ) : Prop := ∀ (P : List Addr) (s : SD) (n : τ) (σ : L2.St) (H : Hp), Rel tp P s n σ H → ∀ Q : It → Hp → Prop,
  Post (fun F J ds => ∀ P2 H2, Same F (Fz P2 H2) → (∀ a ∈ P2, Pn (H2 a)) → (∀ (i : Nat) (d : D), ds[i]? = some d → J.go i H2 ∧ ∀ x H3, J.yld i H2 x H3 → Same H2 H3 ∧ Rp tp.K (Fz P2 H3) x d) ∧ J.stop ds.length H2) tp Ec P s σ H (f s n) Q → wi σ H Q
abbrev SG := D → SD → Option SD
/-- only these slots are touched -/
def Touch (is : List Nat) (σ σ' : L2.St) : Prop := σ'.length = σ.length ∧ ∀ j : Nat, j ∉ is → σ'[j]? = σ[j]?
def SimG (tp : Tp τ) (is : List Nat) (g : TG) (f : SG) : Prop := ∀ (B : Hp) (P0 P : List Addr) (s s' : SD) (n : τ) (σ : L2.St) (H : Hp) (v : V) (d : D) (Q : L2.St → Hp → Prop), BRel tp B P0 P s n σ H → Rp tp.K (Fz P H) v d → f d s = some s' →
  (∀ σ', BRel tp B P0 P s' n σ' H → Touch is σ σ' → Q σ' H) → g v σ H Q

section
variable {tp : Tp τ} {Ec : EC} {B B1 : Hp} {P0 P : List Addr} {s : SD} {n n' : τ} {σ : L2.St} {H H' : Hp} {ta tb te : TE} {fa fb fe : SEg τ} {tt tu : TT} {ft fu : STg τ} {t u : TS} {f g : SSg τ}
theorem PostS.less {r : FLg τ} {K : Ends} (h : PostS tp Ec B P0 r K) (e : Same B B1) : PostS tp Ec B1 P0 r K := by
  cases r with
  | nx s n => exact fun P σ H b => h P σ H (b.less e)
  | bk s n => exact fun P σ H b => h P σ H (b.less e)
  | ct s n => exact fun P σ H b => h P σ H (b.less e)
  | rt d n => exact fun v H b => h v H (e.trans b)
  | ex c => exact fun H b => h H (e.trans b)
  | no => exact h
theorem PostS.bind {α β : Type} {rep : Hp → β → α → Prop} {r : R (α × τ)} {k : α → τ → FLg τ} {K : Ends} {Q1 : β → Hp → Prop} (b : BRel tp B P0 P s n σ H) (hq : PostS tp Ec B P0 (bindS r k) K)
    (h : ∀ a n1 v H1, BRel tp B P0 P s n1 σ H1 → SameT tp H H1 → rep (Fz P H1) v a → PostS tp Ec B P0 (k a n1) K → Q1 v H1) : Post rep tp Ec P s σ H r Q1 := by
  cases r with
  | ok x => exact fun v H' hr e' hv => h _ _ v H' (b.grow hr e') e' hv hq
  | ex c => exact fun H' e => hq H' fun a o h => e a o (fun z => by rw [b.twn a z] at h; cases h) (b.sm a o h)
  | no => exact hq

/-! ### blocks -/
def sNext : SSg τ := fun s n => .nx s n
theorem sim_next : SimS tp Ec tNext sNext := fun B P0 P s n σ H b K hq => hq P σ H b
def sSeq (f g : SSg τ) : SSg τ := fun s n => match f s n with
  | .nx s' n' => g s' n'
  | r => r
theorem sim_seq (h1 : SimS tp Ec t f) (h2 : SimS tp Ec u g) : SimS tp Ec (tSeq t u) (sSeq f g) := fun B P0 P s n σ H b K hq => by
  refine h1 B P0 P s n σ H b _ ?_
  unfold sSeq at hq
  cases e : f s n with
  | nx s' n' =>
    rw [e] at hq
    exact fun P' σ' H' b' => h2 B P0 P' s' n' σ' H' b' K hq
  | bk s n => rw [e] at hq; exact hq
  | ct s n => rw [e] at hq; exact hq
  | rt d n => rw [e] at hq; exact hq
  | ex c => rw [e] at hq; exact hq
  | no => rw [e] at hq; exact hq
def sBreak : SSg τ := fun s n => .bk s n
def sCont : SSg τ := fun s n => .ct s n
theorem sim_break : SimS tp Ec tBreak sBreak := fun B P0 P s n σ H b K hq => hq P σ H b
theorem sim_cont : SimS tp Ec tCont sCont := fun B P0 P s n σ H b K hq => hq P σ H b
def sIfS (ft : STg τ) (f g : SSg τ) : SSg τ := fun s n => bindS (ft s n) fun c n1 => match c with
  | true => f s n1
  | false => g s n1
theorem sim_ifS (h0 : SimT tp Ec tt ft) (h1 : SimS tp Ec t f) (h2 : SimS tp Ec u g) : SimS tp Ec (tIfS tt t u) (sIfS ft f g) := fun B P0 P s n σ H b K hq =>
  h0 P s n σ H b.rel _ (PostS.bind b hq fun c n1 v H1 b1 e1 r1 q1 => by
    cases (show v = c from r1)
    cases c with
    | true =>
      rw [if_pos rfl]
      exact h1 B P0 P s n1 σ H1 b1 K q1
    | false =>
      rw [if_neg Bool.false_ne_true]
      exact h2 B P0 P s n1 σ H1 b1 K q1)
theorem Rel.tpv (r : Rel tp P s n σ H) : tp.inv n P H := r.iv
theorem BRel.iv0 (b : BRel tp B P0 P s n σ H) : tp.inv n P0 H := tp.st n P P0 H H b.rel.iv (fun _ _ _ h => h) (Fz_less b.sub)
theorem BRel.pin0 (b : BRel tp B P0 P s n σ H) : ∀ a ∈ P0, Pn (H a) := fun a h => b.rel.pin a (b.sub a h)
def sRet (fe : SEg τ) : SSg τ := fun s n => bindS (fe s n) fun d n1 => .rt d n1
theorem sim_ret (he : SimE tp Ec te fe) : SimS tp Ec (tRet te) (sRet fe) := fun B P0 P s n σ H b K hq =>
  he P s n σ H b.rel _ (PostS.bind b hq fun d n1 v H1 b1 e1 r1 q1 => q1 v H1 b1.sm b1.iv0 b1.pin0 (r1.mono (Fz_less b1.sub)))
def sDrop (fe : SEg τ) : SSg τ := fun s n => bindS (fe s n) fun _ n1 => .nx s n1
theorem sim_drop (he : SimE tp Ec te fe) : SimS tp Ec (tDrop te) (sDrop fe) := fun B P0 P s n σ H b K hq =>
  he P s n σ H b.rel _ (PostS.bind b hq fun d n1 v H1 b1 e1 r1 q1 => q1 P σ H1 b1)
/-- a raise: nothing is told but the class -/
def sRaise (c : Nat) : SSg τ := fun _ _ => .ex c

/-! ### stores -/
theorem get_set {α : Type} (l : List α) (i : Nat) (x : α) (j : Nat) (h : i < l.length) : (l.set i x)[j]? = if j = i then some x else l[j]? := by
  rw [List.getElem?_set]
  by_cases e : i = j
  · subst e
    simp [h]
  · rw [if_neg e, if_neg fun z => e z.symm]
theorem BRel.setIm (b : BRel tp B P0 P s n σ H) {i : Nat} {v : V} {d : D} (hv : Rp tp.K (Fz P H) v d) : BRel tp B P0 P (s.set i (.im d)) n (σ.set i (some v)) H := by
  by_cases hi : i < s.length
  · have hi2 : i < σ.length := by rw [← b.rel.len]; exact hi
    have g1 := fun j => get_set s i (.im d) j hi
    have g2 := fun j => get_set σ i (some v) j hi2
    have notI : ∀ (j : Nat) (ds : List D), (s.set i (.im d))[j]? = some (.ow ds) → j ≠ i ∧ s[j]? = some (.ow ds) := fun j ds h => by
      rw [g1] at h
      split at h
      · cases h
      · exact ⟨‹_›, h⟩
    refine ⟨⟨by rw [List.length_set, List.length_set]; exact b.rel.len, fun j e h => ?_, fun j ds h => ?_, fun j k ds es p h1 h2 h3 h4 => ?_, fun j h => ?_, fun j k h => ?_, fun a h => ?_, b.rel.iv, b.rel.pin⟩, b.sm, b.sub, b.new, fun j ds p h1 h2 => ?_, b.twn⟩
    · rw [g1] at h
      rw [g2]
      split at h
      · cases h
        rw [if_pos ‹_›]
        exact ⟨v, rfl, hv⟩
      · rw [if_neg ‹_›]
        exact b.rel.im j e h
    · obtain ⟨q1, q2⟩ := notI j ds h
      rw [g2, if_neg q1]
      exact b.rel.ow j ds q2
    · obtain ⟨q1, q2⟩ := notI j ds h1
      obtain ⟨q3, q4⟩ := notI k es h2
      rw [g2, if_neg q1] at h3
      rw [g2, if_neg q3] at h4
      exact b.rel.inj j k ds es p q2 q4 h3 h4
    · rw [g1] at h
      rw [g2]
      split at h
      · cases h
      · rw [if_neg ‹_›]
        exact b.rel.tw j h
    · rw [g1] at h
      rw [g2]
      split at h
      · cases h
      · rw [if_neg ‹_›]
        exact b.rel.gs j k h
    · obtain ⟨q1, q3⟩ := b.rel.gp a h
      refine ⟨q1, fun j ds hj => ?_⟩
      obtain ⟨q4, q5⟩ := notI j ds hj
      rw [g2, if_neg q4]
      exact q3 j ds q5
    · obtain ⟨q4, q5⟩ := notI j ds h1
      rw [g2, if_neg q4] at h2
      exact b.own j ds p q5 h2
  · rw [List.set_eq_of_length_le (by omega), List.set_eq_of_length_le (by rw [← b.rel.len]; omega)]
    exact b
def sAsg (i : Nat) (fe : SEg τ) : SSg τ := fun s n => bindS (fe s n) fun d n1 => .nx (s.set i (.im d)) n1
theorem sim_asg (i : Nat) (he : SimE tp Ec te fe) : SimS tp Ec (tAsg te (gName i)) (sAsg i fe) := fun B P0 P s n σ H b K hq =>
  he P s n σ H b.rel _ (PostS.bind b hq fun d n1 v H1 b1 e1 r1 q1 => q1 P _ H1 (b1.setIm r1))
def gN (i : Nat) : SG := fun d s => some (s.set i (.im d))
theorem Touch.set (σ : L2.St) (i : Nat) (x : Option V) : Touch [i] σ (σ.set i x) := ⟨List.length_set .., fun j hj => by
  rw [List.getElem?_set, if_neg]
  intro z
  exact hj (by simp [z])⟩
theorem Touch.cons {is : List Nat} {σ σ' : L2.St} {i : Nat} {x : Option V} (h : Touch is (σ.set i x) σ') : Touch (i :: is) σ σ' := ⟨by rw [h.1, List.length_set], fun j hj => by
  rw [h.2 j fun z => hj (List.mem_cons_of_mem _ z), List.getElem?_set, if_neg]
  intro z
  exact hj (by simp [z])⟩
theorem simG_name (i : Nat) : SimG tp [i] (gName i) (gN i) := fun B P0 P s s' n σ H v d Q b hv e q => by
  cases e
  exact q _ (b.setIm hv) (Touch.set σ i _)
/-- several targets of a tuple -/
def gTs : List Nat → List D → SD → Option SD
  | [], [], s => some s
  | i :: is, d :: ds, s => gTs is ds (s.set i (.im d))
  | _, _, _ => none
def gT (is : List Nat) : SG := fun d s => match d with
  | .tup ds => gTs is ds s
  | _ => none
def namesG : List Nat → TGs
  | [] => gNil
  | i :: is => gCons (gName i) (namesG is)
theorem gTs_len : ∀ (is : List Nat) (ds : List D) (s s' : SD), gTs is ds s = some s' → is.length = ds.length
  | [], [], _, _, _ => rfl
  | [], _ :: _, _, _, h => by cases h
  | _ :: _, [], _, _, h => by cases h
  | i :: is, d :: ds, s, s', h => by
    show _ + 1 = _ + 1
    rw [gTs_len is ds _ s' h]
theorem simG_names : ∀ (is : List Nat) (ds : List D) (xs : List V) (s s' : SD) (σ : L2.St) (Q : L2.St → Hp → Prop), BRel tp B P0 P s n σ H → RpA tp.K (Fz P H) xs ds → gTs is ds s = some s' → (∀ σ', BRel tp B P0 P s' n σ' H → Touch is σ σ' → Q σ' H) → namesG is xs σ H Q
  | [], [], _, s, s', σ, Q, b, .nil, e, q => by
    cases e
    exact ⟨rfl, q _ b ⟨rfl, fun _ _ => rfl⟩⟩
  | [], _ :: _, _, _, _, _, _, _, _, e, _ => by cases e
  | _ :: _, [], _, _, _, _, _, _, _, e, _ => by cases e
  | i :: is, d :: ds, _, s, s', σ, Q, b, .cons hv hr, e, q => ⟨_, _, rfl, simG_names is ds _ _ s' _ Q (b.setIm hv) hr e fun σ' b' t => q σ' b' t.cons⟩
theorem simG_tup (K : Frg) (is : List Nat) : SimG tp is (gTup K is.length (namesG is)) (gT is) := fun B P0 P s s' n σ H v d Q b hv e q => by
  cases d with
  | tup ds =>
    obtain ⟨a, xs, rfl, ha, hr⟩ := hv.tup_inv
    exact ⟨a, xs, rfl, .inl (.inl (Fz_sub P H _ _ ha)), by rw [hr.length, gTs_len _ _ _ _ e], simG_names is ds xs s s' σ Q b hr e q⟩
  | _ => cases e
/-- a, b = x, y -/
def sPar (i j : Nat) (fr : SAg τ) : SSg τ := fun s n => bindS (fr s n) fun xs n1 => match plain xs with
  | some [x, y] => .nx ((s.set i (.im x)).set j (.im y)) n1
  | _ => .no
theorem sim_par {tr : TA} {fr : SAg τ} (i j : Nat) (hr : SimA tp Ec tr fr) : SimS tp Ec (tPar i j tr) (sPar i j fr) := fun B P0 P s n σ H b K hq =>
  hr P s n σ H b.rel _ (PostS.bind b hq fun xs n1 vs H1 b1 e1 r1 q1 => by
    cases e : plain xs with
    | none =>
      rw [e] at q1
      exact False.elim q1
    | some ds =>
      rw [e] at q1
      have ra := plain_rp r1 e
      match ds, ra, q1 with
      | [x, y], .cons h1 (.cons h2 .nil), q1 => exact ⟨_, _, rfl, q1 P _ H1 ((b1.setIm h1).setIm h2)⟩
      | [], _, q1 => exact False.elim q1
      | [_], _, q1 => exact False.elim q1
      | _ :: _ :: _ :: _, _, q1 => exact False.elim q1)
end
end G
end

section
set_option Elab.async false
set_option linter.all false
set_option backward.match.sparseCases false
set_option maxRecDepth 100000
namespace G
open PySem L2
section
variable {tp : Tp τ} {Ec : EC} {B B1 : Hp} {P0 P : List Addr} {s : SD} {n n' : τ} {σ : L2.St} {H H' : Hp} {ta tb te : TE} {fa fb fe : SEg τ} {tt tu : TT} {ft fu : STg τ} {t u : TS} {f g : SSg τ}
theorem Rel.keep (r : Rel tp P s n σ H) (e : SameT tp H H') (ht : tp.inv n' P H') (hg : ∀ a, tp.gh a → Pn (H' a)) : Rel tp P s n' σ H' where
  len := r.len
  im := fun i d h => by
    obtain ⟨v, h1, h2⟩ := r.im i d h
    exact ⟨v, h1, h2.mono (r.fz e)⟩
  ow := fun i ds h => by
    obtain ⟨p, xs, h1, h2, h3, h4⟩ := r.ow i ds h
    exact ⟨p, xs, h1, h2, e _ _ (fun z => (r.gp p z).2 i ds h h1) h3, h4.mono (r.fz e)⟩
  inj := r.inj
  tw := r.tw
  gs := r.gs
  gp := r.gp
  iv := ht
  pin := fun a ha => by
    by_cases q : tp.gh a
    · exact hg a q
    · exact (r.pin a ha).same fun o q1 => e a o q q1

/-! ### a new list -/
abbrev SNg (τ : Type) := SD → τ → R (List D × τ)
abbrev SN := SNg Nat
theorem Rel.gn (r : Rel tp P s n σ H) : ∀ a, tp.gh a → Pn (H a) := fun a h => r.pin a (r.gp a h).1
def PostN (tp : Tp τ) (Ec : EC) (P : List Addr) (s : SD) (σ : L2.St) (H : Hp) (r : R (List D × τ)) (Q : VK) : Prop :=
  match r with
  | .ok (ds, n) => ∀ p xs H', Rel tp (p :: P) s n σ H' → SameT tp H H' → H p = none → H' p = some (.lst xs) → RpA tp.K (Fz (p :: P) H') xs ds → Q (.ref p) H'
  | .ex c => ∀ H', SameT tp H H' → Ec c H'
  | .no => False
def SimN (tp : Tp τ) (Ec : EC) (te : TE) (f : SNg τ) : Prop := ∀ (P : List Addr) (s : SD) (n : τ) (σ : L2.St) (H : Hp), Rel tp P s n σ H → ∀ Q : VK, PostN tp Ec P s σ H (f s n) Q → te σ H Q
theorem PostN.shift {r : R (List D × τ)} {Q : VK} (hr : Rel tp P s n' σ H') (h : PostN tp Ec P s σ H r Q) (e : SameT tp H H') : PostN tp Ec P s σ H' r Q := by
  cases r with
  | ok x => exact fun p xs H2 r e2 np => h p xs H2 r (e.trans e2) (by
      cases q : H p with
      | none => rfl
      | some o =>
        by_cases z : tp.gh p
        · exact absurd np (hr.gn p z)
        · rw [e p o z q] at np
          cases np)
  | ex c => exact fun H2 e2 => h H2 (e.trans e2)
  | no => exact h
theorem PostN.bind {α β : Type} {rep : Hp → β → α → Prop} {r : R (α × τ)} {k : α → τ → R (List D × τ)} {Q : VK} {Q1 : β → Hp → Prop}
    (hq : PostN tp Ec P s σ H (bindE r k) Q)
    (h : ∀ a n1 v H1, Rel tp P s n1 σ H1 → SameT tp H H1 → rep (Fz P H1) v a → PostN tp Ec P s σ H1 (k a n1) Q → Q1 v H1) : Post rep tp Ec P s σ H r Q1 := by
  cases r with
  | ok x => exact fun v H' hr e' hv => h _ _ v H' hr e' hv (PostN.shift hr hq e')
  | ex c => exact hq
  | no => exact hq
/-- a list laid at p -/
theorem Rel.laid (r : Rel tp P s n σ H) {p : Addr} {xs : List V} (np : H p = none) : Rel tp (p :: P) s n σ (upd H p (.lst xs)) := by
  have fr := r.fresh np
  have fe : Same (Fz P H) (Fz (p :: P) (upd H p (.lst xs))) := fun a o h => by
    have h1 : a ∉ P := fun z => by
      rw [Fz_in z] at h
      cases h
    rw [Fz_out h1] at h
    have h2 : a ≠ p := ne_of_none h np
    rw [Fz_out (by simp [h1, h2]), upd_ne h2]
    exact h
  have ne : ∀ a o, H a = some o → a ≠ p := fun a o h => ne_of_none h np
  refine ⟨r.len, fun i d h => ?_, fun i ds h => ?_, r.inj, r.tw, r.gs, fun a h => ?_, tp.st n P _ H _ r.iv (fun b o _ h => by rw [upd_ne (ne _ _ h)]; exact h) fe, fun a h => ?_⟩
  · obtain ⟨v, h1, h2⟩ := r.im i d h
    exact ⟨v, h1, h2.mono fe⟩
  · obtain ⟨q, ys, h1, h2, h3, h4⟩ := r.ow i ds h
    refine ⟨q, ys, h1, List.mem_cons_of_mem _ h2, ?_, h4.mono fe⟩
    rw [upd_ne (ne _ _ h3)]
    exact h3
  · obtain ⟨h1, h3⟩ := r.gp a h
    exact ⟨List.mem_cons_of_mem _ h1, h3⟩
  · rcases List.mem_cons.mp h with rfl | h
    · rw [upd_same]
      exact Pn.lst
    · by_cases e : a = p
      · subst e
        rw [upd_same]
        exact Pn.lst
      · rw [upd_ne e]
        exact r.pin a h
theorem RpA.laid {p : Addr} {xs ys : List V} {ds : List D} (np : H p = none) (h : RpA tp.K (Fz P H) xs ds) : RpA tp.K (Fz (p :: P) (upd H p (.lst ys))) xs ds := h.mono fun a o h => by
  have h1 : a ∉ P := fun z => by
    rw [Fz_in z] at h
    cases h
  rw [Fz_out h1] at h
  have h2 : a ≠ p := ne_of_none h np
  rw [Fz_out (by simp [h1, h2]), upd_ne h2]
  exact h
theorem PostN.laid {ds : List D} {n1 : τ} {Q : VK} (hq : PostN tp Ec P s σ H (.ok (ds, n1)) Q) (r : Rel tp P s n1 σ H) {p : Addr} {xs : List V} (np : H p = none) (hx : RpA tp.K (Fz P H) xs ds) : Q (.ref p) (upd H p (.lst xs)) :=
  hq p xs _ (r.laid np) (Same.toT (same_new np)) np upd_same (RpA.laid np hx)
/-- the list is no longer set apart -/
theorem Rel.join {p : Addr} (r : Rel tp (p :: P) s n' σ H') (r0 : Rel tp P s n σ H) (np : H p = none) : Rel tp P s n' σ H' := by
  have fe : Same (Fz (p :: P) H') (Fz P H') := Fz_less fun a h => List.mem_cons_of_mem _ h
  refine ⟨r.len, fun i d h => ?_, fun i ds h => ?_, r.inj, r.tw, r.gs, fun a h => ?_, tp.st n' _ _ H' H' r.iv (fun _ _ _ h => h) fe, fun a h => r.pin a (List.mem_cons_of_mem _ h)⟩
  · obtain ⟨v, h1, h2⟩ := r.im i d h
    exact ⟨v, h1, h2.mono fe⟩
  · obtain ⟨q, ys, h1, h2, h3, h4⟩ := r.ow i ds h
    obtain ⟨q', zs, g1, g2, g3, g4⟩ := r0.ow i ds h
    rw [h1] at g1
    cases g1
    exact ⟨q, ys, h1, g2, h3, h4.mono fe⟩
  · exact ⟨(r0.gp a h).1, (r.gp a h).2⟩
def sNw (fn : SNg τ) : SEg τ := fun s n => bindE (fn s n) fun ds n1 => .ok (.lst ds, n1)
theorem sim_new {fn : SNg τ} (h : SimN tp Ec te fn) : SimE tp Ec te (sNw fn) := fun P s n σ H hr Q hq => by
  refine h P s n σ H hr Q ?_
  unfold sNw at hq
  cases e : fn s n with
  | ok x =>
    rw [e] at hq
    intro p xs H' r1 e1 np hp ha
    have hnp : p ∉ P := fun z => hr.pin p z np
    have r2 : Rel tp P s x.2 σ H' := r1.join hr np
    refine hq _ H' r2 e1 (.lst ?_ (ha.mono (Fz_less fun a h => List.mem_cons_of_mem _ h)))
    rw [Fz_out hnp]
    exact hp
  | ex c =>
    rw [e] at hq
    exact hq
  | no =>
    rw [e] at hq
    exact hq
def nLst (fr : SAg τ) : SNg τ := fun s n => bindE (fr s n) fun xs n1 => match plain xs with
  | some ds => if ds.length < big then .ok (ds, n1) else .no
  | none => .no
theorem simN_lst {tr : TA} {fr : SAg τ} (hr : SimA tp Ec tr fr) : SimN tp Ec (tLst tr) (nLst fr) := fun P s n σ H h Q hq =>
  hr P s n σ H h _ (PostN.bind hq fun xs n1 vs H1 h1 e1 r1 q1 => by
    cases e : plain xs with
    | none =>
      rw [e] at q1
      exact False.elim q1
    | some ds =>
      rw [e] at q1
      have ra := plain_rp r1 e
      dsimp only at q1
      split at q1
      · rename_i hb
        exact ⟨by rw [ra.length]; exact big_le hb, fun p hp => q1.laid h1 hp ra⟩
      · exact False.elim q1)
/-- an operation that lays a list -/
def OpN (K : Frg) (r : R2) (g : D → D → Option (List D)) : Prop := ∀ (P : List Addr) (x y : V) (d e : D) (zs : List D) (H : Hp) (Q : VK), (∀ a ∈ P, Pn (H a)) → Rp K (Fz P H) x d → Rp K (Fz P H) y e → g d e = some zs → (∀ p xs, H p = none → RpA K (Fz P H) xs zs → Q (.ref p) (upd H p (.lst xs))) → r x y H Q
def nOp (g : D → D → Option (List D)) (fa fb : SEg τ) : SNg τ := fun s n => bindE (fa s n) fun x n1 => bindE (fb s n1) fun y n2 => optE (g x y) n2
theorem simN_op {r : R2} {g : D → D → Option (List D)} (hr : OpN tp.K r g) (ha : SimE tp Ec ta fa) (hb : SimE tp Ec tb fb) : SimN tp Ec (tOp r ta tb) (nOp g fa fb) := fun P s n σ H h Q hq =>
  ha P s n σ H h _ (PostN.bind hq fun x n1 v H1 h1 e1 r1 q1 => hb P s n1 σ H1 h1 _ (PostN.bind q1 fun y n2 u H2 h2 e2 r2 q2 => by
    cases hg : g x y with
    | none =>
      rw [hg] at q2
      exact False.elim q2
    | some zs =>
      rw [hg] at q2
      exact hr P v u x y zs H2 Q h2.pin (r1.mono (h1.fz e2)) r2 hg fun p xs np hx => q2.laid h2 np hx))

/-! ### lists of one's own in slots -/
theorem BRel.setOw {p : Addr} {xs : List V} {ds : List D} (b : BRel tp B P0 P s n σ H) (r : Rel tp (p :: P) s n' σ H') (e : SameT tp H H') (np : H p = none) (hp : H' p = some (.lst xs)) (hx : RpA tp.K (Fz (p :: P) H') xs ds) (i : Nat) :
    BRel tp B P0 (p :: P) (s.set i (.ow ds)) n' (σ.set i (some (.ref p))) H' := by
  have bp : B p = none := b.sm.free np
  have p0 : p ∉ P0 := fun z => b.pin0 p z np
  have sm : Same B H' := fun a o h => e a o (fun z => by rw [b.twn a z] at h; cases h) (b.sm a o h)
  have sub : ∀ a ∈ P0, a ∈ p :: P := fun a h => List.mem_cons_of_mem _ (b.sub a h)
  have new : ∀ a ∈ p :: P, a ∈ P0 ∨ B a = none := fun a h => by
    rcases List.mem_cons.mp h with rfl | h
    · exact .inr bp
    · exact b.new a h
  have nep : ∀ (j : Nat) (es : List D) (q : Addr), s[j]? = some (.ow es) → σ[j]? = some (some (.ref q)) → q ≠ p := fun j es q h1 h2 z => by
    obtain ⟨q', ys, g1, g2, g3, g4⟩ := b.rel.ow j es h1
    rw [h2] at g1
    cases g1
    rw [z, np] at g3
    cases g3
  by_cases hi : i < s.length
  · have hi2 : i < σ.length := by rw [← b.rel.len]; exact hi
    have g1 := fun j => get_set s i (.ow ds) j hi
    have g2 := fun j => get_set σ i (some (V.ref p)) j hi2
    refine ⟨⟨by rw [List.length_set, List.length_set]; exact r.len, fun j d h => ?_, fun j es h => ?_, fun j k es fs q h1 h2 h3 h4 => ?_, fun j h => ?_, fun j k h => ?_, fun a h => ?_, r.iv, r.pin⟩, sm, sub, new, fun j es q h1 h2 => ?_, b.twn⟩
    · rw [g1] at h
      split at h
      · cases h
      · rw [g2, if_neg ‹_›]
        exact r.im j d h
    · rw [g1] at h
      split at h
      · cases h
        rw [g2, if_pos ‹_›]
        exact ⟨p, xs, rfl, List.mem_cons_self, hp, hx⟩
      · rw [g2, if_neg ‹_›]
        exact r.ow j es h
    · rw [g1] at h1 h2
      rw [g2] at h3 h4
      by_cases ej : j = i
      · by_cases ek : k = i
        · rw [ej, ek]
        · rw [if_pos ej] at h3
          rw [if_neg ek] at h2 h4
          cases h3
          exact absurd rfl (nep k fs p h2 h4)
      · rw [if_neg ej] at h1 h3
        by_cases ek : k = i
        · rw [if_pos ek] at h4
          cases h4
          exact absurd rfl (nep j es p h1 h3)
        · rw [if_neg ek] at h2 h4
          exact r.inj j k es fs q h1 h2 h3 h4
    · rw [g1] at h
      split at h
      · cases h
      · rw [g2, if_neg ‹_›]
        exact r.tw j h
    · rw [g1] at h
      split at h
      · cases h
      · rw [g2, if_neg ‹_›]
        exact r.gs j k h
    · obtain ⟨q1, q3⟩ := r.gp a h
      refine ⟨q1, fun j es hj => ?_⟩
      rw [g1] at hj
      rw [g2]
      split at hj
      · rw [if_pos ‹_›]
        intro z
        cases z
        exact b.rel.gn p h np
      · rw [if_neg ‹_›]
        exact q3 j es hj
    · rw [g1] at h1
      rw [g2] at h2
      split at h1
      · rw [if_pos ‹_›] at h2
        cases h2
        exact ⟨bp, p0⟩
      · rw [if_neg ‹_›] at h2
        exact b.own j es q h1 h2
  · rw [List.set_eq_of_length_le (by omega), List.set_eq_of_length_le (by rw [← b.rel.len]; omega)]
    exact ⟨r, sm, sub, new, b.own, b.twn⟩
def sAsgN (i : Nat) (fn : SNg τ) : SSg τ := fun s n => bindS (fn s n) fun ds n1 => .nx (s.set i (.ow ds)) n1
theorem PostS.bindN {r : R (List D × τ)} {k : List D → τ → FLg τ} {K : Ends} {Q1 : VK} (b : BRel tp B P0 P s n σ H) (hq : PostS tp Ec B P0 (bindS r k) K)
    (h : ∀ ds n1 p xs H1, Rel tp (p :: P) s n1 σ H1 → SameT tp H H1 → H p = none → H1 p = some (.lst xs) → RpA tp.K (Fz (p :: P) H1) xs ds → PostS tp Ec B P0 (k ds n1) K → Q1 (.ref p) H1) : PostN tp Ec P s σ H r Q1 := by
  cases r with
  | ok x => exact fun p xs H' hr e' np hp ha => h _ _ p xs H' hr e' np hp ha hq
  | ex c => exact fun H' e => hq H' fun a o h => e a o (fun z => by rw [b.twn a z] at h; cases h) (b.sm a o h)
  | no => exact hq
theorem sim_asgN {fn : SNg τ} (i : Nat) (h : SimN tp Ec te fn) : SimS tp Ec (tAsg te (gName i)) (sAsgN i fn) := fun B P0 P s n σ H b K hq =>
  h P s n σ H b.rel _ (PostS.bindN b hq fun ds n1 p xs H1 r1 e1 np hp ha q1 => q1 (p :: P) _ H1 (b.setOw r1 e1 np hp ha i))
/-- the list at slot i becomes another -/
theorem BRel.updOw (b : BRel tp B P0 P s n σ H) {i : Nat} {p : Addr} {es ds : List D} {xs : List V} (hi : s[i]? = some (.ow es)) (hσ : σ[i]? = some (some (.ref p))) (hx : RpA tp.K (Fz P H) xs ds) :
    BRel tp B P0 P (s.set i (.ow ds)) n σ (upd H p (.lst xs)) := by
  obtain ⟨bp, p0⟩ := b.own i es p hi hσ
  have hil : i < s.length := (List.getElem?_eq_some_iff.mp hi).1
  have hpP : p ∈ P := by
    obtain ⟨p', ys, h1, h2, _⟩ := b.rel.ow i es hi
    rw [hσ] at h1
    cases h1
    exact h2
  obtain ⟨zs, hpL⟩ : ∃ zs, H p = some (.lst zs) := by
    obtain ⟨p', ys, h1, h2, h3, _⟩ := b.rel.ow i es hi
    rw [hσ] at h1
    cases h1
    exact ⟨ys, h3⟩
  have fe : Fz P (upd H p (.lst xs)) = Fz P H := Fz_upd_in hpP
  have g1 := fun j => get_set s i (.ow ds) j hil
  refine ⟨⟨by rw [List.length_set]; exact b.rel.len, fun j d h => ?_, fun j fs h => ?_, fun j k es' fs q h1 h2 h3 h4 => ?_, fun j h => ?_, fun j k h => ?_, fun a h => ?_, tp.st n P P H _ b.rel.iv (fun a o hg h => by rw [upd_ne fun z : a = p => (b.rel.gp a hg).2 i es hi (by rw [z]; exact hσ)]; exact h) (by rw [fe]; exact Same.refl _), fun a h => ?_⟩, fun a o h => ?_, b.sub, b.new, fun j fs q h1 h2 => ?_, b.twn⟩
  · rw [g1] at h
    rw [fe]
    split at h
    · cases h
    · exact b.rel.im j d h
  · rw [g1] at h
    rw [fe]
    split at h
    · cases h
      rename_i ej
      subst ej
      exact ⟨p, xs, hσ, hpP, upd_same, hx⟩
    · rename_i ej
      obtain ⟨q, ys, h1, h2, h3, h4⟩ := b.rel.ow j fs h
      refine ⟨q, ys, h1, h2, ?_, h4⟩
      rw [upd_ne]
      · exact h3
      · intro z
        subst z
        exact ej (b.rel.inj j i fs es q h hi h1 hσ)
  · have e1 : ∃ es2, s[j]? = some (.ow es2) := by
      rw [g1] at h1
      split at h1
      · rename_i z
        rw [z]
        exact ⟨_, hi⟩
      · exact ⟨_, h1⟩
    have e2 : ∃ es2, s[k]? = some (.ow es2) := by
      rw [g1] at h2
      split at h2
      · rename_i z
        rw [z]
        exact ⟨_, hi⟩
      · exact ⟨_, h2⟩
    obtain ⟨_, e1⟩ := e1
    obtain ⟨_, e2⟩ := e2
    exact b.rel.inj j k _ _ q e1 e2 h3 h4
  · rw [g1] at h
    split at h
    · cases h
    · exact b.rel.tw j h
  · rw [g1] at h
    split at h
    · cases h
    · exact b.rel.gs j k h
  · obtain ⟨q1, q3⟩ := b.rel.gp a h
    refine ⟨q1, fun j fs hj => ?_⟩
    rw [g1] at hj
    split at hj
    · rename_i z
      rw [z]
      exact q3 i es hi
    · exact q3 j fs hj
  · by_cases e : a = p
    · subst e
      rw [upd_same]
      exact Pn.lst
    · rw [upd_ne e]
      exact b.rel.pin a h
  · rw [upd_ne fun z => by rw [z, bp] at h; cases h]
    exact b.sm a o h
  · rw [g1] at h1
    split at h1
    · rename_i z
      rw [z] at h2
      exact b.own i es q hi h2
    · exact b.own j fs q h1 h2
/-- the list at slot i is read from now on -/
theorem BRel.freeze (b : BRel tp B P0 P s n σ H) {i : Nat} {ds : List D} (hi : s[i]? = some (.ow ds)) : ∃ P', BRel tp B P0 P' (s.set i (.im (.lst ds))) n σ H := by
  obtain ⟨p, xs, h1, h2, h3, h4⟩ := b.rel.ow i ds hi
  obtain ⟨bp, p0⟩ := b.own i ds p hi h1
  have hil : i < s.length := (List.getElem?_eq_some_iff.mp hi).1
  have g1 := fun j => get_set s i (.im (.lst ds)) j hil
  have inP : ∀ a, a ∈ P.filter (fun a => decide (a ≠ p)) ↔ a ∈ P ∧ a ≠ p := fun a => by
    rw [List.mem_filter]
    simp
  have fe : Same (Fz P H) (Fz (P.filter fun a => decide (a ≠ p)) H) := Fz_less fun a h => ((inP a).mp h).1
  have notI : ∀ (j : Nat) (es : List D), (s.set i (.im (.lst ds)))[j]? = some (.ow es) → j ≠ i ∧ s[j]? = some (.ow es) := fun j es h => by
    rw [g1] at h
    split at h
    · cases h
    · exact ⟨‹_›, h⟩
  have ntp : ∀ a, tp.gh a → a ≠ p := fun a h z => by
    subst z
    exact (b.rel.gp a h).2 i ds hi h1
  refine ⟨P.filter fun a => decide (a ≠ p), ⟨by rw [List.length_set]; exact b.rel.len, fun j d h => ?_, fun j es h => ?_, fun j k es fs q q1 q2 q3 q4 => ?_, fun j h => ?_, fun j k h => ?_, fun a h => ?_, tp.st n P _ H H b.rel.iv (fun _ _ _ h => h) fe, fun a h => b.rel.pin a ((inP a).mp h).1⟩, b.sm, fun a h => (inP a).mpr ⟨b.sub a h, fun z => p0 (z ▸ h)⟩, fun a h => b.new a ((inP a).mp h).1, fun j es q q1 q2 => ?_, b.twn⟩
  · rw [g1] at h
    split at h
    · cases h
      rename_i z
      subst z
      refine ⟨_, h1, .lst ?_ (h4.mono fe)⟩
      rw [Fz_out fun z => ((inP p).mp z).2 rfl]
      exact h3
    · obtain ⟨v, q1, q2⟩ := b.rel.im j d h
      exact ⟨v, q1, q2.mono fe⟩
  · obtain ⟨q1, q2⟩ := notI j es h
    obtain ⟨q, ys, e1, e2, e3, e4⟩ := b.rel.ow j es q2
    refine ⟨q, ys, e1, (inP q).mpr ⟨e2, fun z => ?_⟩, e3, e4.mono fe⟩
    subst z
    exact q1 (b.rel.inj j i es ds q q2 hi e1 h1)
  · exact b.rel.inj j k es fs q (notI j es q1).2 (notI k fs q2).2 q3 q4
  · rw [g1] at h
    split at h
    · cases h
    · exact b.rel.tw j h
  · rw [g1] at h
    split at h
    · cases h
    · exact b.rel.gs j k h
  · obtain ⟨q1, q3⟩ := b.rel.gp a h
    exact ⟨(inP a).mpr ⟨q1, ntp a h⟩, fun j es hj => q3 j es (notI j es hj).2⟩
  · exact b.own j es q (notI j es q1).2 q2
def sFrz (i : Nat) (f : SSg τ) : SSg τ := fun s n => match s[i]? with
  | some (.ow ds) => f (s.set i (.im (.lst ds))) n
  | _ => .no
theorem sim_frz (i : Nat) (h : SimS tp Ec t f) : SimS tp Ec t (sFrz i f) := fun B P0 P s n σ H b K hq => by
  unfold sFrz at hq
  cases e : s[i]? with
  | none => rw [e] at hq; exact False.elim hq
  | some x =>
    rw [e] at hq
    cases x with
    | ow ds =>
      obtain ⟨P', b'⟩ := b.freeze e
      exact h B P0 P' _ n σ H b' K hq
    | un => exact False.elim hq
    | im _ => exact False.elim hq
    | gh _ => exact False.elim hq
    | tw => exact False.elim hq
/-- an expression that reads the whole list at slot i and gives something flat -/
def flatD : D → Bool
  | .non => true
  | .bl _ => true
  | .int _ => true
  | .str _ => true
  | _ => false
theorem Rp.flat {F F' : Hp} {v : V} {d : D} (h : Rp tp.K F v d) (hf : flatD d = true) : Rp tp.K F' v d := by
  cases d with
  | non => cases h; exact .non
  | bl _ => cases h; exact .bl _
  | int _ => cases h; exact .int _
  | str _ => cases h; exact .str _
  | _ => cases hf
def sThaw (i : Nat) (fe : SEg τ) : SEg τ := fun s n => match s[i]? with
  | some (.ow ds) => bindE (fe (s.set i (.im (.lst ds))) n) fun d n1 => if flatD d = true then .ok (d, n1) else .no
  | _ => .no
/-- what is held does not depend on what is set apart -/
def PInd (tp : Tp τ) : Prop := ∀ n P P' H, tp.inv n P H → tp.inv n P' H
theorem pi0 {τ : Type} {K : Frg} : PInd (tp0 τ K) := fun _ _ _ _ h => h
theorem piT {K : Frg} {a : Addr} : PInd (tpT K a) := fun _ _ _ _ h => h
/-- any base will do -/
theorem Rel.base (r : Rel tp P s n σ H) : BRel tp (fun _ => none) [] P s n σ H :=
  ⟨r, (fun _ _ h => by cases h), (fun _ h => by cases h), fun _ _ => .inr rfl, fun _ _ _ _ _ => ⟨rfl, (fun h => by cases h)⟩, fun _ _ => rfl⟩
theorem sim_thaw (i : Nat) (he : SimE tp Ec te fe) (hp : PInd tp := by first | exact pi0 | exact piT) : SimE tp Ec te (sThaw i fe) := fun P s n σ H r Q hq => by
  unfold sThaw at hq
  cases e : s[i]? with
  | none => rw [e] at hq; exact False.elim hq
  | some x =>
    rw [e] at hq
    cases x with
    | ow ds =>
      obtain ⟨P', b'⟩ := r.base.freeze e
      refine he P' _ n σ H b'.rel Q ?_
      dsimp only at hq
      cases er : fe (s.set i (.im (.lst ds))) n with
      | ok x =>
        rw [er] at hq
        intro v H' r' e' hv
        have hq : Post (Rp tp.K) tp Ec P s σ H (if flatD x.1 = true then .ok (x.1, x.2) else .no) Q := hq
        split at hq
        · exact hq v H' (r.keep e' (hp _ _ _ _ r'.tpv) r'.gn) e' (hv.flat ‹_›)
        · exact False.elim hq
      | ex c =>
        rw [er] at hq
        exact hq
      | no =>
        rw [er] at hq
        exact hq
    | un => exact False.elim hq
    | im _ => exact False.elim hq
    | gh _ => exact False.elim hq
    | tw => exact False.elim hq
def sThawT (i : Nat) (ft : STg τ) : STg τ := fun s n => match s[i]? with
  | some (.ow ds) => ft (s.set i (.im (.lst ds))) n
  | _ => .no
theorem sim_thawT (i : Nat) (he : SimT tp Ec tt ft) (hp : PInd tp := by first | exact pi0 | exact piT) : SimT tp Ec tt (sThawT i ft) := fun P s n σ H r Q hq => by
  unfold sThawT at hq
  cases e : s[i]? with
  | none => rw [e] at hq; exact False.elim hq
  | some x =>
    rw [e] at hq
    cases x with
    | ow ds =>
      obtain ⟨P', b'⟩ := r.base.freeze e
      refine he P' _ n σ H b'.rel Q ?_
      dsimp only at hq
      cases er : ft (s.set i (.im (.lst ds))) n with
      | ok x =>
        rw [er] at hq
        exact fun v H' r' e' hv => hq v H' (r.keep e' (hp _ _ _ _ r'.tpv) r'.gn) e' hv
      | ex c =>
        rw [er] at hq
        exact hq
      | no =>
        rw [er] at hq
        exact hq
    | un => exact False.elim hq
    | im _ => exact False.elim hq
    | gh _ => exact False.elim hq
    | tw => exact False.elim hq
end
end G
end

section
set_option Elab.async false
set_option linter.all false
set_option backward.match.sparseCases false
set_option maxRecDepth 100000
namespace G
open PySem L2
section
variable {tp : Tp τ} {Ec : EC} {B B1 : Hp} {P0 P : List Addr} {s : SD} {n n' : τ} {σ : L2.St} {H H' : Hp} {ta tb te : TE} {fa fb fe : SEg τ} {tt tu : TT} {ft fu : STg τ} {t u : TS} {f g : SSg τ} {K : Frg}
/-! ### append, extend, a store by place -/
def sApp (i : Nat) (fe : SEg τ) : SSg τ := fun s n => match s[i]? with
  | some (.ow ds) => bindS (fe s n) fun d n1 => if ds.length < big then .nx (s.set i (.ow (ds ++ [d]))) n1 else .no
  | _ => .no
theorem BRel.owAt (b : BRel tp B P0 P s n σ H) {i : Nat} {ds : List D} (hi : s[i]? = some (.ow ds)) : ∃ p xs, σ[i]? = some (some (.ref p)) ∧ p ∈ P ∧ H p = some (.lst xs) ∧ RpA tp.K (Fz P H) xs ds := b.rel.ow i ds hi
theorem sim_app (i : Nat) (he : SimE tp Ec te fe) : SimS tp Ec (tDrop (tBM K "list" rAppend (tVar i) (tCons te tNil))) (sApp i fe) := fun B P0 P s n σ H b L hq => by
  unfold sApp at hq
  cases e : s[i]? with
  | none => rw [e] at hq; exact False.elim hq
  | some x =>
    rw [e] at hq
    cases x with
    | ow ds =>
      obtain ⟨p, xs, h1, h2, h3, h4⟩ := b.owAt e
      refine ⟨.ref p, h1, .inl ⟨rfl, xs, .inl (.inl h3)⟩, he P s n σ H b.rel _ (PostS.bind b hq fun d n1 v H1 b1 e1 r1 q1 => ?_)⟩
      obtain ⟨p', ys, g1, g2, g3, g4⟩ := b1.owAt e
      rw [h1] at g1
      cases g1
      have q1 : PostS tp Ec B P0 (if ds.length < big then .nx (s.set i (.ow (ds ++ [d]))) n1 else .no) L := q1
      split at q1
      · rename_i hb
        exact ⟨p, ys, v, rfl, rfl, g3, by rw [g4.length]; exact big_lt hb, q1 P σ _ (b1.updOw e h1 (g4.append (.cons r1 .nil)))⟩
      · exact False.elim q1
    | un => exact False.elim hq
    | im _ => exact False.elim hq
    | gh _ => exact False.elim hq
    | tw => exact False.elim hq
def sExt (i : Nat) (fe : SEg τ) : SSg τ := fun s n => match s[i]? with
  | some (.ow ds) => bindS (fe s n) fun d n1 => match d with
    | .lst es => if ds.length + es.length < big then .nx (s.set i (.ow (ds ++ es))) n1 else .no
    | _ => .no
  | _ => .no
theorem sim_ext (i : Nat) (he : SimE tp Ec te fe) : SimS tp Ec (tDrop (tBM K "list" rExtend (tVar i) (tCons te tNil))) (sExt i fe) := fun B P0 P s n σ H b L hq => by
  unfold sExt at hq
  cases e : s[i]? with
  | none => rw [e] at hq; exact False.elim hq
  | some x =>
    rw [e] at hq
    cases x with
    | ow ds =>
      obtain ⟨p, xs, h1, h2, h3, h4⟩ := b.owAt e
      refine ⟨.ref p, h1, .inl ⟨rfl, xs, .inl (.inl h3)⟩, he P s n σ H b.rel _ (PostS.bind b hq fun d n1 v H1 b1 e1 r1 q1 => ?_)⟩
      obtain ⟨p', ys, g1, g2, g3, g4⟩ := b1.owAt e
      rw [h1] at g1
      cases g1
      cases d with
      | lst es =>
        obtain ⟨q, zs, rfl, hq2, hz⟩ := r1.lst_inv
        have q1 : PostS tp Ec B P0 (if ds.length + es.length < big then .nx (s.set i (.ow (ds ++ es))) n1 else .no) L := q1
        split at q1
        · rename_i hb
          exact ⟨p, q, ys, zs, rfl, rfl, g3, Fz_sub P H1 _ _ hq2, by rw [g4.length, hz.length]; exact big_le hb, q1 P σ _ (b1.updOw e h1 (g4.append hz))⟩
        · exact False.elim q1
      | _ => exact False.elim q1
    | un => exact False.elim hq
    | im _ => exact False.elim hq
    | gh _ => exact False.elim hq
    | tw => exact False.elim hq
/-- the state counts the town -/
def Tn (tp : Tp Nat) : Prop := ∀ n P H b, tp.a = some b → tp.inv n P H → H b = some (.lst (List.replicate n (.int 0)))
theorem tn0 {K : Frg} : Tn (tp0 Nat K) := fun _ _ _ _ h => by cases h
theorem tnT {K : Frg} {a : Addr} : Tn (tpT K a) := fun n P H b h hi => by
  cases h
  exact hi
def sTick (i : Nat) : SS := fun s n => match s[i]? with
  | some .tw => if n < big then .nx s (n + 1) else .no
  | _ => .no
theorem sim_tick {Ec : EC} {K K' : Frg} {a : Addr} (i : Nat) : SimS (tpT K' a) Ec (tDrop (tBM K "list" rAppend (tVar i) (tCons (tC (.int 0)) tNil))) (sTick i) := fun B P0 P s n σ H b L hq => by
  unfold sTick at hq
  cases e : s[i]? with
  | none => rw [e] at hq; exact False.elim hq
  | some x =>
    rw [e] at hq
    cases x with
    | tw =>
      have hq : PostS (tpT K' a) Ec B P0 (if n < big then .nx s (n + 1) else .no) L := hq
      split at hq
      · rename_i hb
        obtain ⟨a', ha, hσ⟩ := b.rel.tw i e
        cases ha
        have h2 : H a = some (.lst (List.replicate n (.int 0))) := b.rel.iv
        refine ⟨.ref a, hσ, .inl ⟨rfl, _, .inl (.inl h2)⟩, a, _, _, rfl, rfl, h2, by rw [List.length_replicate]; exact big_lt hb, hq P σ _ ?_⟩
        rw [← List.replicate_succ']
        have es : SameT (tpT K' a) H (upd H a (.lst (List.replicate (n + 1) (V.int 0)))) := fun c o hc h => by
          rw [upd_ne fun z => hc z]
          exact h
        exact b.grow (b.rel.keep es upd_same fun c hc => by
          cases (show c = a from hc)
          rw [upd_same]
          exact Pn.lst) es
      · exact False.elim hq
    | un => exact False.elim hq
    | im _ => exact False.elim hq
    | ow _ => exact False.elim hq
    | gh _ => exact False.elim hq
def sSetIx (i : Nat) (fi fe : SEg τ) : SSg τ := fun s n => match s[i]? with
  | some (.ow ds) => bindS (fe s n) fun d n1 => bindS (fi s n1) fun k n2 => match k with
    | .int k => match ixN ds.length k with
      | some j => .nx (s.set i (.ow (ds.set j d))) n2
      | none => .no
    | _ => .no
  | _ => .no
theorem sim_setIx {ti : TE} {fi : SEg τ} (i : Nat) (hi : SimE tp Ec ti fi) (he : SimE tp Ec te fe) : SimS tp Ec (tAsg te (gSub (tVar i) ti rSetL)) (sSetIx i fi fe) := fun B P0 P s n σ H b L hq => by
  unfold sSetIx at hq
  cases e : s[i]? with
  | none => rw [e] at hq; exact False.elim hq
  | some x =>
    rw [e] at hq
    cases x with
    | ow ds =>
      refine he P s n σ H b.rel _ (PostS.bind b hq fun d n1 v H1 b1 e1 r1 q1 => ?_)
      obtain ⟨p, xs, h1, h2, h3, h4⟩ := b1.owAt e
      refine ⟨.ref p, h1, hi P s n1 σ H1 b1.rel _ (PostS.bind b1 q1 fun k n2 w H2 b2 e2 r2 q2 => ?_)⟩
      cases k with
      | int k =>
        obtain ⟨p', ys, g1, g2, g3, g4⟩ := b2.owAt e
        rw [h1] at g1
        cases g1
        cases ej : ixN ds.length k with
        | none =>
          have q2 : PostS tp Ec B P0 (match ixN ds.length k with
            | some j => .nx (s.set i (.ow (ds.set j d))) n2
            | none => .no) L := q2
          rw [ej] at q2
          exact False.elim q2
        | some j =>
          have q2 : PostS tp Ec B P0 (match ixN ds.length k with
            | some j => .nx (s.set i (.ow (ds.set j d))) n2
            | none => .no) L := q2
          rw [ej] at q2
          exact ⟨p, ys, k, j, rfl, r2.int_inv, g3, by rw [g4.length]; exact ej, q2 P σ _ (b2.updOw e h1 (g4.set (r1.mono (b1.rel.fz e2)) j))⟩
      | _ => exact False.elim q2
    | un => exact False.elim hq
    | im _ => exact False.elim hq
    | gh _ => exact False.elim hq
    | tw => exact False.elim hq
/-- the list's item, its length, a slice of it: read without setting it still -/
def sIxOw (i : Nat) (fi : SEg τ) : SEg τ := fun s n => match s[i]? with
  | some (.ow ds) => bindE (fi s n) fun k n1 => match k with
    | .int k => optE (atI ds k) n1
    | _ => .no
  | _ => .no
theorem atI_rp {F : Hp} {xs : List V} {ds : List D} {k : Int} {d : D} (h : RpA K F xs ds) (e : atI ds k = some d) : ∃ v, atI xs k = some v ∧ Rp K F v d := by
  unfold atI at e ⊢
  rw [h.length]
  cases q : ixN ds.length k with
  | none => rw [q] at e; cases e
  | some j =>
    rw [q] at e
    exact h.get e
theorem sim_ixOw {ti : TE} {fi : SEg τ} (i : Nat) (hi : SimE tp Ec ti fi) : SimE tp Ec (tOp (rIx tp.K) (tVar i) ti) (sIxOw i fi) := fun P s n σ H r Q hq => by
  unfold sIxOw at hq
  cases e : s[i]? with
  | none => rw [e] at hq; exact False.elim hq
  | some x =>
    rw [e] at hq
    cases x with
    | ow ds =>
      obtain ⟨p, xs, h1, h2, h3, h4⟩ := r.ow i ds e
      refine ⟨.ref p, h1, hi P s n σ H r _ (hq.bind fun k n1 v H1 r1 e1 rv q1 => ?_)⟩
      cases k with
      | int k =>
        obtain ⟨p', ys, g1, g2, g3, g4⟩ := r1.ow i ds e
        rw [h1] at g1
        cases g1
        obtain ⟨z, hz, q⟩ := Post.opt q1 r1
        obtain ⟨w, hw, rw'⟩ := atI_rp g4 hz
        exact .inl ⟨p, ys, k, w, rfl, rv.int_inv, .inl (.inl g3), hw, q w H1 (Same.refl H1) rw'⟩
      | _ => exact False.elim q1
    | un => exact False.elim hq
    | im _ => exact False.elim hq
    | gh _ => exact False.elim hq
    | tw => exact False.elim hq
def sLenOw (i : Nat) : SE := fun s n => match s[i]? with
  | some (.ow ds) => .ok (.int ds.length, n)
  | some .tw => .ok (.int n, n)
  | _ => .no
theorem sim_lenOw {tp : Tp Nat} (i : Nat) (ht : Tn tp := by first | exact tn0 | exact tnT) : SimE tp Ec (tCB (fun xs H Q => ∃ x n, xs = [x] ∧ LenV K x H n ∧ Q (.int n) H) (tCons (tVar i) tNil)) (sLenOw i) := fun P s n σ H r Q hq => by
  unfold sLenOw at hq
  cases e : s[i]? with
  | none => rw [e] at hq; exact False.elim hq
  | some x =>
    rw [e] at hq
    cases x with
    | ow ds =>
      obtain ⟨p, xs, h1, h2, h3, h4⟩ := r.ow i ds e
      refine ⟨.ref p, h1, .ref p, ds.length, rfl, .inl ⟨xs, .inl (.inl h3), h4.length.symm⟩, hq.same r (.int _)⟩
    | tw =>
      obtain ⟨a, ha, hσ⟩ := r.tw i e
      have h2 := ht n P H a ha r.iv
      exact ⟨.ref a, hσ, .ref a, n, rfl, .inl ⟨_, .inl (.inl h2), by rw [List.length_replicate]⟩, hq.same r (.int _)⟩
    | un => exact False.elim hq
    | im _ => exact False.elim hq
    | gh _ => exact False.elim hq
/-- the same in any world -/
def sLenG (i : Nat) : SEg τ := fun s n => match s[i]? with
  | some (.ow ds) => .ok (.int ds.length, n)
  | _ => .no
theorem sim_lenG (i : Nat) : SimE tp Ec (tCB (fun xs H Q => ∃ x n, xs = [x] ∧ LenV K x H n ∧ Q (.int n) H) (tCons (tVar i) tNil)) (sLenG i) := fun P s n σ H r Q hq => by
  unfold sLenG at hq
  cases e : s[i]? with
  | none => rw [e] at hq; exact False.elim hq
  | some x =>
    rw [e] at hq
    cases x with
    | ow ds =>
      obtain ⟨p, xs, h1, h2, h3, h4⟩ := r.ow i ds e
      refine ⟨.ref p, h1, .ref p, ds.length, rfl, .inl ⟨xs, .inl (.inl h3), h4.length.symm⟩, hq.same r (.int _)⟩
    | tw => exact False.elim hq
    | un => exact False.elim hq
    | im _ => exact False.elim hq
    | gh _ => exact False.elim hq

/-! ### while -/
def sWhile (ft : STg τ) (f : SSg τ) : Nat → SSg τ
  | 0 => fun _ _ => .no
  | k + 1 => fun s n => bindS (ft s n) fun c n1 => match c with
    | true => match f s n1 with
      | .nx s2 n2 => sWhile ft f k s2 n2
      | .ct s2 n2 => sWhile ft f k s2 n2
      | .bk s2 n2 => .nx s2 n2
      | r => r
    | false => .nx s n1
theorem sim_while (k : Nat) (h0 : SimT tp Ec tt ft) (h1 : SimS tp Ec t f) : SimS tp Ec (tWhile tt t) (sWhile ft f k) := fun B P0 P s n σ H b L hq => by
  refine ⟨fun m σ H => ∃ P s n, BRel tp B P0 P s n σ H ∧ PostS tp Ec B P0 (sWhile ft f m s n) L, ⟨k, P, s, n, b, hq⟩, fun m σ H hw => ?_⟩
  obtain ⟨P, s, n, b, hq⟩ := hw
  cases m with
  | zero => exact False.elim hq
  | succ m =>
    refine h0 P s n σ H b.rel _ (PostS.bind b hq fun c n1 v H1 b1 e1 r1 q1 => ?_)
    cases (show v = c from r1)
    cases c with
    | true =>
      rw [if_pos rfl]
      refine ⟨fun σ' H' => ∃ P s n, BRel tp B P0 P s n σ' H' ∧ PostS tp Ec B P0 (sWhile ft f m s n) L, fun σ' H' hN => ⟨m, Nat.lt_succ_self m, hN⟩, h1 B P0 P s n1 σ H1 b1 _ ?_⟩
      have q1 : PostS tp Ec B P0 (match f s n1 with
        | .nx s2 n2 => sWhile ft f m s2 n2
        | .ct s2 n2 => sWhile ft f m s2 n2
        | .bk s2 n2 => .nx s2 n2
        | r => r) L := q1
      cases er : f s n1 with
      | nx s2 n2 => rw [er] at q1; exact fun P' σ' H' b' => ⟨P', s2, n2, b', q1⟩
      | ct s2 n2 => rw [er] at q1; exact fun P' σ' H' b' => ⟨P', s2, n2, b', q1⟩
      | bk s2 n2 => rw [er] at q1; exact q1
      | rt d n2 => rw [er] at q1; exact q1
      | ex c => rw [er] at q1; exact q1
      | no => rw [er] at q1; exact q1
    | false =>
      rw [if_neg Bool.false_ne_true]
      exact q1 P σ H1 b1
/-! ### for -/
def loopS (tg : SG) (f : SSg τ) : List D → SSg τ
  | [] => fun s n => .nx s n
  | d :: ds => fun s n => match tg d s with
    | some s1 => match f s1 n with
      | .nx s2 n2 => loopS tg f ds s2 n2
      | .ct s2 n2 => loopS tg f ds s2 n2
      | .bk s2 n2 => .nx s2 n2
      | r => r
    | none => .no
def sFor (it : SIg τ) (tg : SG) (f : SSg τ) : SSg τ := fun s n => bindS (it s n) fun ds n1 => loopS tg f ds s n1
theorem sim_for {wi : TI} {it : SIg τ} {gt : TG} {tg : SG} {is : List Nat} (hi : SimI tp Ec wi it) (hg : SimG tp is gt tg) (h1 : SimS tp Ec t f) : SimS tp Ec (tFor wi gt t) (sFor it tg f) := fun B P0 P s n σ H b L hq =>
  hi P s n σ H b.rel _ (PostS.bind b hq fun ds n1 J H1 b1 e1 hJ q1 => by
    have bm := b1.more
    have em := more_sub B P H1
    have fm := more_fz b1
    refine ⟨fun i m σ H => ∃ P' s n, i ≤ ds.length ∧ m = ds.length - i ∧ BRel tp (more B P H1) P0 P' s n σ H ∧ Same (Fz P H1) (Fz P' H) ∧ PostS tp Ec B P0 (loopS tg f (ds.drop i) s n) L, ⟨ds.length, P, s, n1, Nat.zero_le _, rfl, bm, Same.refl _, q1⟩, fun i m σ H2 hw => ?_⟩
    obtain ⟨P2, s2, n2, hle, em2, b2, f2, q2⟩ := hw
    obtain ⟨hgo, hstop⟩ := hJ P2 H2 f2 b2.rel.pin
    by_cases hlt : i < ds.length
    · have hd : ds[i]? = some ds[i] := List.getElem?_eq_getElem hlt
      obtain ⟨go, yl⟩ := hgo i _ hd
      rw [List.drop_eq_getElem_cons hlt] at q2
      have q2 : PostS tp Ec B P0 (match tg ds[i] s2 with
        | some s1 => match f s1 n2 with
          | .nx s2 n2 => loopS tg f (ds.drop (i + 1)) s2 n2
          | .ct s2 n2 => loopS tg f (ds.drop (i + 1)) s2 n2
          | .bk s2 n2 => .nx s2 n2
          | r => r
        | none => .no) L := q2
      refine .inr ⟨go, fun σ' H' => ∃ P' s n, BRel tp (more B P H1) P0 P' s n σ' H' ∧ Same (Fz P H1) (Fz P' H') ∧ PostS tp Ec B P0 (loopS tg f (ds.drop (i + 1)) s n) L, fun σ' H' hN => ?_, fun x H3 hy => ?_⟩
      · obtain ⟨P', s', n', b', f', q'⟩ := hN
        exact ⟨ds.length - (i + 1), by omega, P', s', n', by omega, rfl, b', f', q'⟩
      · obtain ⟨s3, rx⟩ := yl x H3 hy
        cases et : tg ds[i] s2 with
        | none =>
          rw [et] at q2
          exact False.elim q2
        | some s4 =>
          rw [et] at q2
          dsimp only at q2
          refine hg (more B P H1) P0 P2 s2 s4 n2 σ H3 x ds[i] _ (b2.grow (b2.rel.grow s3) (Same.toT s3)) rx et fun σ' b4 _ => ?_
          have keepF : ∀ {P' : List Addr} {s' : SD} {n' : τ} {σ' : L2.St} {H' : Hp}, BRel tp (more B P H1) P0 P' s' n' σ' H' → Same (Fz P H1) (Fz P' H') := fun {P' s' n' σ' H'} b' a o h => by
            have ha : a ∉ P := fun z => by
              rw [Fz_in z] at h
              cases h
            have hm : more B P H1 a = some o := fm a o h
            have hn : a ∉ P' := fun z => by
              rcases b'.new a z with w | w
              · exact ha (b1.sub a w)
              · rw [hm] at w
                cases w
            rw [Fz_out hn]
            exact b'.sm a o hm
          refine h1 (more B P H1) P0 P2 s4 n2 σ' H3 b4 _ ?_
          cases er : f s4 n2 with
          | nx s5 n5 => rw [er] at q2; exact fun P' σ' H' b' => ⟨P', s5, n5, b', keepF b', q2⟩
          | ct s5 n5 => rw [er] at q2; exact fun P' σ' H' b' => ⟨P', s5, n5, b', keepF b', q2⟩
          | bk s5 n5 => rw [er] at q2; exact fun P' σ' H' b' => q2 P' σ' H' (b'.less em)
          | rt d n5 => rw [er] at q2; exact fun v H b => q2 v H (em.trans b)
          | ex c => rw [er] at q2; exact fun H b => q2 H (em.trans b)
          | no => rw [er] at q2; exact q2
    · have ei : i = ds.length := by omega
      subst ei
      rw [List.drop_length] at q2
      exact .inl ⟨hstop, q2 P2 σ H2 (b2.less em)⟩)
end
end G
end

section
set_option Elab.async false
set_option linter.all false
set_option backward.match.sparseCases false
set_option maxRecDepth 100000
namespace G
open PySem L2
section
variable {tp : Tp τ} {Ec : EC} {B B1 : Hp} {P0 P : List Addr} {s : SD} {n n' : τ} {σ : L2.St} {H H' : Hp} {ta tb te : TE} {fa fb fe : SEg τ} {tt tu : TT} {ft fu : STg τ} {t u : TS} {f g : SSg τ} {K : Frg}
/-! ### what is walked -/
theorem Fz_sq {P2 : List Addr} {H2 : Hp} {F : Hp} (h : Same F (Fz P2 H2)) {a : Addr} {o : HO} (e : F a = some o) : H2 a = some o := Fz_sub _ _ _ _ (h _ _ e)
def seqOf : D → Option (List D)
  | .lst ds => some ds
  | .tup ds => some ds
  | .scr ns => some (ns.map D.int)
  | _ => none
def iSeq (K : Frg) (tl : TE) : TI := fun σ H R => tl σ H fun x H1 => ∃ a, x = .ref a ∧ (((∃ xs, SqL K H1 a xs) ∧ R (Itl K a) H1) ∨ ((∃ xs, SqT K H1 a xs) ∧ R (Itt K a) H1))
theorem pi_seq {X : Cx} {tg l : Expr} {tl : TE} (hl : PE X l tl) : PI X tg l (iSeq X.K tl) := by
  refine ⟨fun pins s σ H R I h => ?_⟩
  refine thn (hl.run pins s σ H _ I h) fun v s1 ⟨x, H1, I1, r1, a, e, q⟩ => ?_
  subst e
  have cp : ∀ {t : TE}, PE X l t → True := fun _ => trivial
  rcases q with ⟨hq, q⟩ | ⟨hq, q⟩
  · obtain ⟨xs, hq⟩ := hq
    cases r1
    obtain ⟨its, rv, p, hz⟩ := I1.list hq
    refine wpAny_pyIter_list p.isList ⟨s1.heap.objs.size, [s1.heap.objs.size], _, _, H1, rfl, I1.kept (t' := s1.toks) fun b o e => Heap.get?_push_of_some _ e, turn_list a _, ⟨_, Heap.get?_push_size _ rfl, rfl, rfl⟩, fun b hb => ?_, q⟩
    rw [List.mem_singleton.mp hb]
    exact I1.fpOk (Nat.le_refl _) (I1.hok.fresh (Nat.le_refl _))
  · obtain ⟨xs, hq⟩ := hq
    cases r1
    obtain ⟨its, rv, p, hz⟩ := I1.tuple hq
    refine wpAny_pyIter_tuple (show s1.heap.IsTuple a its.toArray from p) ⟨s1.heap.objs.size, [s1.heap.objs.size], _, _, H1, rfl, I1.kept (t' := s1.toks) fun b o e => Heap.get?_push_of_some _ e, turn_tuple a _, ⟨_, Heap.get?_push_size _ rfl, rfl, rfl⟩, fun b hb => ?_, q⟩
    rw [List.mem_singleton.mp hb]
    exact I1.fpOk (Nat.le_refl _) (I1.hok.fresh (Nat.le_refl _))
def nSeq (fa : SEg τ) : SIg τ := fun s n => bindE (fa s n) fun d n1 => optE (seqOf d) n1
theorem Post.optI {α β : Type} {rep : Hp → β → α → Prop} {o : Option α} {Q : β → Hp → Prop} (hq : Post rep tp Ec P s σ H (optE o n) Q) : ∃ z, o = some z ∧ Post rep tp Ec P s σ H (.ok (z, n)) Q := by
  cases o with
  | none => exact False.elim hq
  | some z => exact ⟨z, rfl, hq⟩
theorem simI_seq (h : SimE tp Ec te fe) : SimI tp Ec (iSeq tp.K te) (nSeq fe) := fun P s n σ H r Q hq =>
  h P s n σ H r _ (hq.bind fun d n1 v H1 r1 e1 rv q1 => by
    obtain ⟨ds, hd, q⟩ := Post.optI q1
    cases d with
    | lst ds' =>
      cases hd
      obtain ⟨a, xs, rfl, ha, hx⟩ := rv.lst_inv
      refine ⟨a, rfl, .inl ⟨⟨xs, .inl (.inl (Fz_sub _ _ _ _ ha))⟩, q _ H1 r1 (SameT.refl _ _) fun P2 H2 hs hp => ⟨fun i d hi => ?_, ⟨xs, .inl (.inl (Fz_sq hs ha)), by rw [hx.length]; exact Nat.le_refl _⟩⟩⟩⟩
      obtain ⟨w, hw, rw'⟩ := hx.get hi
      have sq : SqL tp.K H2 a xs := .inl (.inl (Fz_sq hs ha))
      refine ⟨⟨xs, w, sq, hw⟩, fun x H3 hy => ?_⟩
      obtain ⟨e3, y⟩ := hy
      subst e3
      have := y xs sq
      rw [hw] at this
      cases this
      exact ⟨Same.refl _, rw'.mono hs⟩
    | tup ds' =>
      cases hd
      obtain ⟨a, xs, rfl, ha, hx⟩ := rv.tup_inv
      refine ⟨a, rfl, .inr ⟨⟨xs, .inl (.inl (Fz_sub _ _ _ _ ha))⟩, q _ H1 r1 (SameT.refl _ _) fun P2 H2 hs hp => ⟨fun i d hi => ?_, ⟨xs, .inl (.inl (Fz_sq hs ha)), by rw [hx.length]; exact Nat.le_refl _⟩⟩⟩⟩
      obtain ⟨w, hw, rw'⟩ := hx.get hi
      have sq : SqT tp.K H2 a xs := .inl (.inl (Fz_sq hs ha))
      refine ⟨⟨xs, w, sq, hw⟩, fun x H3 hy => ?_⟩
      obtain ⟨e3, y⟩ := hy
      subst e3
      have := y xs sq
      rw [hw] at this
      cases this
      exact ⟨Same.refl _, rw'.mono hs⟩
    | scr ns =>
      cases hd
      obtain ⟨a, rfl, ha⟩ := rv.scr_inv
      refine ⟨a, rfl, .inl ⟨⟨_, (Fz_sub P H1).seq ha⟩, q _ H1 r1 (SameT.refl _ _) fun P2 H2 hs hp => ⟨fun i d hi => ?_, ⟨_, (hs.trans (Fz_sub P2 H2)).seq ha, by rw [List.length_map, List.length_map]; exact Nat.le_refl _⟩⟩⟩⟩
      obtain ⟨w, hw, rw'⟩ := (RpA.ints (K := tp.K) (F := Fz P H1) ns).get hi
      have sq : SqL tp.K H2 a (ns.map V.int) := (hs.trans (Fz_sub P2 H2)).seq ha
      refine ⟨⟨_, w, sq, hw⟩, fun x H3 hy => ?_⟩
      obtain ⟨e3, y⟩ := hy
      subst e3
      have := y _ sq
      rw [hw] at this
      cases this
      exact ⟨Same.refl _, rw'.mono hs⟩
    | _ => cases hd)
/-- the ints from lo on, n of them -/
def rangeD (lo : Int) (n : Nat) : List D := (List.range n).map fun i : Nat => D.int (lo + i)
theorem rangeD_get {lo : Int} {n i : Nat} {d : D} (h : (rangeD lo n)[i]? = some d) : i < n ∧ d = .int (lo + i) := by
  unfold rangeD at h
  rw [List.getElem?_map] at h
  cases e : (List.range n)[i]? with
  | none => rw [e] at h; cases h
  | some j =>
    rw [e] at h
    obtain ⟨h1, h2⟩ := List.getElem?_eq_some_iff.mp e
    rw [List.getElem_range] at h2
    rw [List.length_range] at h1
    subst h2
    exact ⟨h1, (Option.some.inj h).symm⟩
theorem itr_ok {K : Frg} {lo : Int} {n : Nat} {F : Hp} : ∀ P2 H2, Same F (Fz P2 H2) → (∀ a ∈ P2, Pn (H2 a)) → (∀ (i : Nat) (d : D), (rangeD lo n)[i]? = some d → (Itr lo n).go i H2 ∧ ∀ x H3, (Itr lo n).yld i H2 x H3 → Same H2 H3 ∧ Rp K (Fz P2 H3) x d) ∧ (Itr lo n).stop (rangeD lo n).length H2 := fun P2 H2 hs hp => by
  refine ⟨fun i d hi => ?_, ?_⟩
  · obtain ⟨h1, h2⟩ := rangeD_get hi
    refine ⟨h1, fun x H3 hy => ?_⟩
    obtain ⟨e3, ex⟩ := hy
    subst e3 ex h2
    exact ⟨Same.refl _, .int _⟩
  · show n ≤ (rangeD lo n).length
    unfold rangeD
    rw [List.length_map, List.length_range]
    exact Nat.le_refl _
/-- below B in size, told by a test that stops at once where i is a letter -/
def okI (B : Nat) (i : Int) : Bool := match i with
  | .ofNat n => Nat.blt n B
  | .negSucc n => Nat.blt n B
theorem ofN (n : Nat) : Int.ofNat n = (n : Int) := rfl
theorem okI_spec {B : Nat} {i : Int} (h : okI B i = true) : -(B : Int) ≤ i ∧ i < B := by
  cases i with
  | ofNat n =>
    have h1 : n < B := Nat.blt_eq.mp h
    rw [ofN]
    omega
  | negSucc n =>
    have h1 : n < B := Nat.blt_eq.mp h
    omega
theorem okI_of {B : Nat} {i : Int} (h1 : -(B : Int) ≤ i) (h2 : i < B) : okI B i = true := by
  cases i with
  | ofNat n =>
    rw [ofN] at h1 h2
    exact Nat.blt_eq.mpr (by omega)
  | negSucc n => exact Nat.blt_eq.mpr (by omega)
def lim62 (i : Int) : Bool := okI 1099511627776 i
theorem lim62_spec {i : Int} (h : lim62 i = true) : -(2 ^ 62) ≤ i ∧ i < 2 ^ 62 := by
  have := okI_spec h
  omega
def nRng1 (fr : SAg τ) : SIg τ := fun s n => bindE (fr s n) fun xs n1 => match plain xs with
  | some [.int j] => if lim62 j = true then .ok (rangeD 0 j.toNat, n1) else .no
  | _ => .no
def nRng2 (fr : SAg τ) : SIg τ := fun s n => bindE (fr s n) fun xs n1 => match plain xs with
  | some [.int i, .int j] => if lim62 i = true ∧ lim62 j = true then .ok (rangeD i (j - i).toNat, n1) else .no
  | _ => .no
theorem simI_rng1 {tr : TA} {fr : SAg τ} (hr : SimA tp Ec tr fr) : SimI tp Ec (iRng1 tr) (nRng1 fr) := fun P s n σ H r Q hq =>
  hr P s n σ H r _ (hq.bind fun xs n1 vs H1 r1 e1 rv q1 => by
    cases e : plain xs with
    | none => rw [e] at q1; exact False.elim q1
    | some ds =>
      rw [e] at q1
      have ra := plain_rp rv e
      split at q1
      · rename_i j heq
        cases heq
        cases ra with
        | cons h1 ra =>
          cases ra
          split at q1
          · rename_i hl
            obtain ⟨l1, l2⟩ := lim62_spec hl
            rw [h1.int_inv]
            exact ⟨j, rfl, l1, l2, q1 _ H1 r1 (SameT.refl _ _) itr_ok⟩
          · exact False.elim q1
      · exact False.elim q1)
theorem simI_rng2 {tr : TA} {fr : SAg τ} (hr : SimA tp Ec tr fr) : SimI tp Ec (iRng2 tr) (nRng2 fr) := fun P s n σ H r Q hq =>
  hr P s n σ H r _ (hq.bind fun xs n1 vs H1 r1 e1 rv q1 => by
    cases e : plain xs with
    | none => rw [e] at q1; exact False.elim q1
    | some ds =>
      rw [e] at q1
      have ra := plain_rp rv e
      split at q1
      · rename_i i j heq
        cases heq
        cases ra with
        | cons h1 ra =>
          cases ra with
          | cons h2 ra =>
            cases ra
            split at q1
            · rename_i hl
              obtain ⟨l1, l2⟩ := lim62_spec hl.1
              obtain ⟨l3, l4⟩ := lim62_spec hl.2
              rw [h1.int_inv, h2.int_inv]
              exact ⟨i, j, rfl, ⟨l1, l2, l3, l4⟩, q1 _ H1 r1 (SameT.refl _ _) itr_ok⟩
            · exact False.elim q1
      · exact False.elim q1)
/-- enumerate -/
def enumD : Nat → List D → List D
  | _, [] => []
  | k, d :: ds => .tup [.int (k : Int), d] :: enumD (k + 1) ds
theorem enumD_get : ∀ (ds : List D) (k i : Nat) (d : D), (enumD k ds)[i]? = some d → ∃ e, ds[i]? = some e ∧ d = .tup [.int ((k + i : Nat) : Int), e]
  | [], _, _, _, h => by simp [enumD] at h
  | e :: ds, k, 0, d, h => by
    simp [enumD] at h
    exact ⟨e, rfl, h.symm⟩
  | e :: ds, k, i + 1, d, h => by
    have h2 : (enumD (k + 1) ds)[i]? = some d := h
    obtain ⟨e2, q1, q2⟩ := enumD_get ds (k + 1) i d h2
    refine ⟨e2, q1, ?_⟩
    rw [q2, show k + 1 + i = k + (i + 1) by omega]
theorem enumD_len : ∀ (ds : List D) (k : Nat), (enumD k ds).length = ds.length
  | [], _ => rfl
  | _ :: ds, k => by
    show _ + 1 = _ + 1
    rw [enumD_len ds (k + 1)]
def nEnum (fr : SAg τ) : SIg τ := fun s n => bindE (fr s n) fun xs n1 => match plain xs with
  | some [.lst ds] => .ok (enumD 0 ds, n1)
  | _ => .no
theorem simI_enum {tr : TA} {fr : SAg τ} (hr : SimA tp Ec tr fr) : SimI tp Ec (iEnum tp.K tr) (nEnum fr) := fun P s n σ H r Q hq =>
  hr P s n σ H r _ (hq.bind fun xs n1 vs H1 r1 e1 rv q1 => by
    cases e : plain xs with
    | none => rw [e] at q1; exact False.elim q1
    | some ds =>
      rw [e] at q1
      have ra := plain_rp rv e
      split at q1
      · rename_i es heq
        cases heq
        cases ra with
        | cons h1 ra =>
          cases ra
          obtain ⟨a, ys, rfl, ha, hx⟩ := h1.lst_inv
          refine ⟨a, ys, rfl, .inl (.inl (Fz_sub _ _ _ _ ha)), q1 _ H1 r1 (SameT.refl _ _) fun P2 H2 hs hp => ⟨fun i d hi => ?_, ⟨ys, .inl (.inl (Fz_sq hs ha)), by rw [enumD_len, hx.length]; exact Nat.le_refl _⟩⟩⟩
          obtain ⟨d', hd', ed⟩ := enumD_get es 0 i d hi
          obtain ⟨w, hw, rw'⟩ := hx.get hd'
          have sq : SqL tp.K H2 a ys := .inl (.inl (Fz_sq hs ha))
          refine ⟨⟨ys, w, sq, hw⟩, fun x H3 hy => ?_⟩
          obtain ⟨T, x', e4, nT, e5, y⟩ := hy
          have := y ys sq
          rw [hw] at this
          cases this
          subst e4 e5 ed
          have nP : T ∉ P2 := fun z => hp T z nT
          refine ⟨same_new nT, .tup (by rw [Fz_out nP]; exact upd_same) (.cons ?_ (.cons ((rw'.mono hs).mono (Fz_mono (same_new nT))) .nil))⟩
          rw [Nat.zero_add]
          exact .int _
      · exact False.elim q1)
/-! ### comprehensions -/
def wipeD (s : SD) : List Nat → SD
  | [] => s
  | v :: vs => (wipeD s vs).set v .un
theorem Rel.wipe1 (r : Rel tp P s n σ H) (v : Nat) : Rel tp P (s.set v .un) n (σ.set v none) H := by
  by_cases hi : v < s.length
  · have hi2 : v < σ.length := by rw [← r.len]; exact hi
    have g1 := fun j => get_set s v .un j hi
    have g2 := fun j => get_set σ v none j hi2
    have go : ∀ (j : Nat) (x : SV), x ≠ .un → (s.set v .un)[j]? = some x → s[j]? = some x ∧ (σ.set v none)[j]? = σ[j]? := fun j x hx h => by
      rw [g1] at h
      split at h
      · cases h
        exact absurd rfl hx
      · rw [g2, if_neg ‹_›]
        exact ⟨h, rfl⟩
    refine ⟨by rw [List.length_set, List.length_set]; exact r.len, fun j d h => ?_, fun j ds h => ?_, fun j k ds es p h1 h2 h3 h4 => ?_, fun j h => ?_, fun j k h => ?_, fun a h => ⟨(r.gp a h).1, fun j ds hj => ?_⟩, r.iv, r.pin⟩
    · obtain ⟨q1, q2⟩ := go j _ (fun z => by cases z) h
      rw [q2]
      exact r.im j d q1
    · obtain ⟨q1, q2⟩ := go j _ (fun z => by cases z) h
      rw [q2]
      exact r.ow j ds q1
    · obtain ⟨q1, q2⟩ := go j _ (fun z => by cases z) h1
      obtain ⟨q3, q4⟩ := go k _ (fun z => by cases z) h2
      rw [q2] at h3
      rw [q4] at h4
      exact r.inj j k ds es p q1 q3 h3 h4
    · obtain ⟨q1, q2⟩ := go j _ (fun z => by cases z) h
      rw [q2]
      exact r.tw j q1
    · obtain ⟨q1, q2⟩ := go j _ (fun z => by cases z) h
      rw [q2]
      exact r.gs j k q1
    · obtain ⟨q1, q2⟩ := go j _ (fun z => by cases z) hj
      rw [q2]
      exact (r.gp a h).2 j ds q1
  · rw [List.set_eq_of_length_le (by omega), List.set_eq_of_length_le (by rw [← r.len]; omega)]
    exact r
theorem Rel.wipe (r : Rel tp P s n σ H) : ∀ vs : List Nat, Rel tp P (wipeD s vs) n (L2.wipe σ vs) H
  | [] => r
  | v :: vs => (Rel.wipe r vs).wipe1 v
theorem wipe_get (σ : L2.St) : ∀ (vs : List Nat) (j : Nat), (L2.wipe σ vs)[j]? = if j ∈ vs then (if j < σ.length then some none else none) else σ[j]?
  | [], j => by simp [L2.wipe]
  | v :: vs, j => by
    unfold L2.wipe
    rw [List.getElem?_set, wipe_length]
    by_cases e : v = j
    · subst e
      simp
    · rw [if_neg e, wipe_get σ vs j]
      have : j ∈ v :: vs ↔ j ∈ vs := by
        rw [List.mem_cons]
        exact ⟨fun h => h.elim (fun z => absurd z.symm e) (fun z => z), .inr⟩
      by_cases h : j ∈ vs
      · rw [if_pos h, if_pos (this.mpr h)]
      · rw [if_neg h, if_neg fun z => h (this.mp z)]
theorem wipe_touch {vs : List Nat} {σ2 : L2.St} (h : Touch vs (L2.wipe σ vs) σ2) : L2.wipe σ2 vs = L2.wipe σ vs := by
  apply List.ext_getElem?
  intro j
  rw [wipe_get, wipe_get]
  have hl : σ2.length = σ.length := by rw [h.1, wipe_length]
  rw [hl]
  by_cases hj : j ∈ vs
  · rw [if_pos hj, if_pos hj]
  · rw [if_neg hj, if_neg hj, h.2 j hj, wipe_get, if_neg hj]
def noEx {α : Type} (r : R α) : R α := match r with
  | .ex _ => .no
  | r => r
def compR (tg : SG) (ft : STg τ) (fe : SEg τ) (s : SD) : List D → τ → R (List D × τ)
  | [], n => .ok ([], n)
  | d :: ds, n => match tg d s with
    | some s1 => bindE (noEx (ft s1 n)) fun b n1 => match b with
      | true => bindE (noEx (fe s1 n1)) fun y n2 => bindE (compR tg ft fe s ds n2) fun ys n3 => .ok (y :: ys, n3)
      | false => compR tg ft fe s ds n1
    | none => .no
def nLc (it : SIg τ) (tg : SG) (ft : STg τ) (fe : SEg τ) (vs : List Nat) : SNg τ := fun s n => bindE (it s n) fun ds n1 => if ds.length < big then compR tg ft fe (wipeD s vs) ds n1 else .no
def Ec0 : EC := fun _ _ => False
theorem Rel.updFree (r : Rel tp P s n σ H) {p : Addr} {o : HO} (hp : p ∈ P) (h1 : ∀ (i : Nat) (ds : List D), s[i]? = some (.ow ds) → σ[i]? ≠ some (some (.ref p))) (h2 : ¬ tp.gh p) (h3 : ∀ xs, H p ≠ some (.tup xs)) (h4 : ∀ xs, o ≠ .tup xs := by intro xs z; cases z) : Rel tp P s n σ (upd H p o) := by
  have fe : Fz P (upd H p o) = Fz P H := Fz_upd_in hp
  refine ⟨r.len, fun i d h => ?_, fun i ds h => ?_, r.inj, r.tw, r.gs, r.gp, tp.st n P P H _ r.iv (fun a u hg h => by rw [upd_ne fun z : a = p => h2 (z ▸ hg)]; exact h) (by rw [fe]; exact Same.refl _), fun a h => ?_⟩
  · rw [fe]
    exact r.im i d h
  · obtain ⟨q, xs, e1, e2, e3, e4⟩ := r.ow i ds h
    rw [fe]
    refine ⟨q, xs, e1, e2, ?_, e4⟩
    rw [upd_ne]
    · exact e3
    · intro z
      subst z
      exact h1 i ds h e1
  · by_cases e : a = p
    · subst e
      rw [upd_same]
      exact Pn.of rfl h4
    · rw [upd_ne e]
      exact r.pin a h
theorem compR_len (tg : SG) (ft : STg τ) (fe : SEg τ) (s : SD) : ∀ (ds : List D) (n : τ) (ys : List D) (n' : τ), compR tg ft fe s ds n = .ok (ys, n') → ys.length ≤ ds.length
  | [], n, ys, n', h => by
    cases h
    exact Nat.le_refl _
  | d :: ds, n, ys, n', h => by
    unfold compR at h
    cases e1 : tg d s with
    | none => rw [e1] at h; cases h
    | some s1 =>
      rw [e1] at h
      dsimp only at h
      cases e2 : noEx (ft s1 n) with
      | ex c => rw [e2] at h; cases h
      | no => rw [e2] at h; cases h
      | ok x =>
        rw [e2] at h
        obtain ⟨b, n1⟩ := x
        cases b with
        | false => exact Nat.le_succ_of_le (compR_len tg ft fe s ds n1 ys n' h)
        | true =>
          have h : bindE (noEx (fe s1 n1)) (fun y n2 => bindE (compR tg ft fe s ds n2) fun ys n3 => .ok (y :: ys, n3)) = .ok (ys, n') := h
          cases e3 : noEx (fe s1 n1) with
          | ex c => rw [e3] at h; cases h
          | no => rw [e3] at h; cases h
          | ok x =>
            rw [e3] at h
            obtain ⟨y, n2⟩ := x
            have h : bindE (compR tg ft fe s ds n2) (fun ys n3 => .ok (y :: ys, n3)) = .ok (ys, n') := h
            cases e4 : compR tg ft fe s ds n2 with
            | ex c => rw [e4] at h; cases h
            | no => rw [e4] at h; cases h
            | ok x =>
              rw [e4] at h
              obtain ⟨zs, n3⟩ := x
              cases h
              exact Nat.succ_le_succ (compR_len tg ft fe s ds n2 zs _ e4)
theorem simN_lc {wi : TI} {it : SIg τ} {gt : TG} {tg : SG} {vs : List Nat} (hi : SimI tp Ec wi it) (hg : SimG tp vs gt tg) (ht : SimT tp Ec0 tt ft) (he : SimE tp Ec0 te fe) : SimN tp Ec (tLc wi gt tt te vs) (nLc it tg ft fe vs) := fun P s n σ H r Q hq =>
  hi P s n σ H r _ (PostN.bind hq fun ds n1 J H1 r1 e1 hJ q1 => by
    intro Dl hD
    have hbig : ds.length < big := by
      by_cases h : ds.length < big
      · exact h
      · rw [if_neg h] at q1
        exact False.elim q1
    rw [if_pos hbig] at q1
    have nP : Dl ∉ P := r1.fresh hD
    have nt : ¬ tp.gh Dl := fun z => r1.gn Dl z hD
    have nOw : ∀ (i : Nat) (es : List D), s[i]? = some (.ow es) → σ[i]? ≠ some (some (.ref Dl)) := fun i es h z => by
      obtain ⟨p, xs, g1, g2, _⟩ := r1.ow i es h
      rw [z] at g1
      cases g1
      exact nP g2
    have fzS : ∀ Hc, SameT tp H1 Hc → Same (Fz P H1) (Fz (Dl :: P) Hc) := fun Hc e a o h => by
      have h1 : a ∉ P := fun z => by
        rw [Fz_in z] at h
        cases h
      rw [Fz_out h1] at h
      have h2 : a ≠ Dl := ne_of_none h hD
      rw [Fz_out (by simp [h1, h2])]
      exact e a o (fun z => h1 (r1.gp a z).1) h
    refine ⟨fun i m Hc => i ≤ ds.length ∧ m = ds.length - i ∧ ∃ acc xs n, Rel tp (Dl :: P) s n σ Hc ∧ SameT tp H1 Hc ∧ Hc Dl = some (.lst xs) ∧ RpA tp.K (Fz (Dl :: P) Hc) xs acc ∧ acc.length ≤ i ∧ PostN tp Ec P s σ H1 (bindE (compR tg ft fe (wipeD s vs) (ds.drop i) n) fun ys n' => .ok (acc ++ ys, n')) Q,
      ⟨ds.length, Nat.zero_le _, rfl, [], [], n1, r1.laid hD, Same.toT (same_new hD), upd_same, .nil, Nat.le_refl _, ?_⟩, fun i m Hc hw => ?_⟩
    · rw [List.drop_zero]
      cases e : compR tg ft fe (wipeD s vs) ds n1 with
      | ok x => rw [e] at q1; exact q1
      | ex c => rw [e] at q1; exact q1
      | no => rw [e] at q1; exact q1
    · obtain ⟨hle, hm, acc, xs, n2, r2, e2, hl, hx, hacc, q2⟩ := hw
      obtain ⟨hgo, hstop⟩ := hJ (Dl :: P) Hc (fzS Hc e2) r2.pin
      by_cases hlt : i < ds.length
      · have hd : ds[i]? = some ds[i] := List.getElem?_eq_getElem hlt
        obtain ⟨go, yl⟩ := hgo i _ hd
        rw [List.drop_eq_getElem_cons hlt] at q2
        unfold compR at q2
        refine .inr ⟨go, fun H' => ∃ acc xs n, Rel tp (Dl :: P) s n σ H' ∧ SameT tp H1 H' ∧ H' Dl = some (.lst xs) ∧ RpA tp.K (Fz (Dl :: P) H') xs acc ∧ acc.length ≤ i + 1 ∧ PostN tp Ec P s σ H1 (bindE (compR tg ft fe (wipeD s vs) (ds.drop (i + 1)) n) fun ys n' => .ok (acc ++ ys, n')) Q, fun H' hN => ⟨ds.length - (i + 1), by omega, by omega, rfl, hN⟩, fun x H3 hy => ?_⟩
        obtain ⟨s3, rx⟩ := yl x H3 hy
        cases et : tg ds[i] (wipeD s vs) with
        | none =>
          rw [et] at q2
          exact False.elim q2
        | some s1 =>
          rw [et] at q2
          dsimp only at q2
          refine hg (fun _ => none) [] (Dl :: P) (wipeD s vs) s1 n2 (L2.wipe σ vs) H3 x ds[i] _ (((r2.grow s3).wipe vs).base) rx et fun σ2 b4 tch => ⟨wipe_touch tch, ?_⟩
          refine ht (Dl :: P) s1 n2 σ2 H3 b4.rel _ ?_
          cases eb : ft s1 n2 with
          | ex c =>
            rw [eb] at q2
            exact False.elim q2
          | no =>
            rw [eb] at q2
            exact False.elim q2
          | ok y =>
            rw [eb] at q2
            obtain ⟨b, n3⟩ := y
            intro b' H4 r4 e4 hb
            cases (show b' = b from hb)
            have e34 : SameT tp H1 H4 := (e2.trans (Same.toT s3)).trans e4
            have r24 : Rel tp (Dl :: P) s n3 σ H4 := (r2.grow s3).keep e4 r4.tpv r4.gn
            have l4 : H4 Dl = some (.lst xs) := e4 _ _ nt (s3 _ _ hl)
            have x4 : RpA tp.K (Fz (Dl :: P) H4) xs acc := (hx.mono (Fz_mono s3)).mono ((r2.grow s3).fz e4)
            cases b with
            | false =>
              rw [if_neg Bool.false_ne_true]
              exact ⟨acc, xs, n3, r24, e34, l4, x4, by omega, q2⟩
            | true =>
              rw [if_pos rfl]
              refine he (Dl :: P) s1 n3 σ2 H4 r4 _ ?_
              have q2 : PostN tp Ec P s σ H1 (bindE (bindE (noEx (fe s1 n3)) fun y n2 => bindE (compR tg ft fe (wipeD s vs) (ds.drop (i + 1)) n2) fun ys n3 => .ok (y :: ys, n3)) fun ys n' => .ok (acc ++ ys, n')) Q := q2
              cases ey : fe s1 n3 with
              | ex c =>
                rw [ey] at q2
                exact False.elim q2
              | no =>
                rw [ey] at q2
                exact False.elim q2
              | ok y =>
                rw [ey] at q2
                obtain ⟨y, n4⟩ := y
                intro w H5 r5 e5 rw'
                have r25 : Rel tp (Dl :: P) s n4 σ H5 := r24.keep e5 r5.tpv r5.gn
                have l5 : H5 Dl = some (.lst xs) := e5 _ _ nt l4
                have x5 : RpA tp.K (Fz (Dl :: P) H5) xs acc := x4.mono (r24.fz e5)
                have inD : Dl ∈ Dl :: P := List.mem_cons_self
                refine ⟨xs, l5, ?_, acc ++ [y], xs ++ [w], n4, r25.updFree inD nOw nt (fun xs z => by rw [l5] at z; cases z), fun a o ha h => ?_, upd_same, ?_, ?_, ?_⟩
                · rw [x5.length]
                  exact big_lt (by omega)
                · rw [upd_ne (ne_of_none h hD)]
                  exact (e34.trans e5) a o ha h
                · rw [Fz_upd_in inD]
                  exact x5.append (.cons rw' .nil)
                · rw [List.length_append]
                  show acc.length + 1 ≤ i + 1
                  omega
                · have q2 : PostN tp Ec P s σ H1 (bindE (bindE (compR tg ft fe (wipeD s vs) (ds.drop (i + 1)) n4) fun ys n3 => .ok (y :: ys, n3)) fun ys n' => .ok (acc ++ ys, n')) Q := q2
                  cases ec : compR tg ft fe (wipeD s vs) (ds.drop (i + 1)) n4 with
                  | ex c => rw [ec] at q2; exact q2
                  | no => rw [ec] at q2; exact q2
                  | ok z =>
                    rw [ec] at q2
                    obtain ⟨zs, n5⟩ := z
                    show PostN tp Ec P s σ H1 (.ok (acc ++ [y] ++ zs, n5)) Q
                    rw [List.append_assoc]
                    exact q2
      · have ei : i = ds.length := by omega
        subst ei
        rw [List.drop_length] at q2
        have q2 : PostN tp Ec P s σ H1 (.ok (acc ++ [], n2)) Q := q2
        rw [List.append_nil] at q2
        exact .inl ⟨hstop, q2 Dl xs Hc r2 e2 hD hl hx⟩)
def sYes : STg τ := fun _ n => .ok (true, n)
theorem sim_yes : SimT tp Ec tYes sYes := fun P s n σ H r Q hq => hq.same r rfl
end
end G
end

section
set_option Elab.async false
set_option linter.all false
set_option backward.match.sparseCases false
set_option maxRecDepth 100000
namespace G
open L2 PySem PyProof.Rows PySem.Spec
/-- the errors, by number -/
def errN : Nat → Str
  | 0 => "InvalidSemigroup"
  | 1 => "InvalidNumber"
  | 2 => "InvalidNumbers"
  | 3 => "InvalidLevels"
  | 4 => "InvalidAnswers"
  | 5 => "NotElement"
  | 6 => "NotCoprime"
  | 7 => "NotGenerator"
  | 8 => "NotFillable"
  | 9 => "NoParent"
  | 10 => "TooLarge"
  | 11 => "TooMany"
  | 12 => "NothingToUndo"
  | _ => "ParseError"
def EcOf (mg : Str → Option Value) (E : XK) : EC := fun c H => ∀ C, mg (errN c) = some (.ref C) → E (.ref C) none H
def spP (K : Frg) (mg : Str → Option Value) (g : List D → R D) : Sp := fun vs H Q E => ∃ (P : List Addr) (ds : List D), (∀ a ∈ P, Pn (H a)) ∧ RpA K (Fz P H) vs ds ∧ match g ds with
  | .ok d => ∀ v H', Same H H' → Rp K (Fz P H') v d → Q v H'
  | .ex c => ∀ H', Same H H' → EcOf mg E c H'
  | .no => False
def spT (K : Frg) (mg : Str → Option Value) (g : List AV → Nat → R (D × Nat)) : Sp := fun vs H Q E => ∃ (P : List Addr) (a : Addr) (n : Nat) (xs : List AV), a ∈ P ∧ H a = some (.lst (List.replicate n (.int 0))) ∧ (∀ a ∈ P, Pn (H a)) ∧ RpVs (tpT K a) (Fz P H) vs xs ∧ match g xs n with
  | .ok (d, n') => ∀ v H', SameT (tpT K a) H H' → H' a = some (.lst (List.replicate n' (.int 0))) → Rp K (Fz P H') v d → Q v H'
  | .ex c => False
  | .no => False
def endP (r : FLg τ) : R D := match r with
  | .rt d _ => .ok d
  | .nx _ _ => .ok .non
  | .ex c => .ex c
  | _ => .no
def runP (m k : Nat) (f : SS) : List D → R D := fun ds => if ds.length = k then endP (f (ds.map SV.im ++ List.replicate (m - k) SV.un) 0) else .no
def endT (r : FLg τ) : R (D × τ) := match r with
  | .rt d n => .ok (d, n)
  | .ex c => .ex c
  | _ => .no
def avS : AV → SV
  | .d x => .im x
  | .tw => .tw
  | .gh k => .gh k
def runT (m k : Nat) (f : SSg τ) : List AV → τ → R (D × τ) := fun xs n => if xs.length = k then endT (f (xs.map avS ++ List.replicate (m - k) SV.un) n) else .no
section
variable {P : Program} {w : World} {K : PySem.W.Frag} {mg : Str → Option Value} {base : Heap}
theorem RpVs.len {tp : Tp τ} {F : Hp} : ∀ {vs : List V} {xs : List AV}, RpVs tp F vs xs → vs.length = xs.length
  | _, _, .nil => rfl
  | _, _, .cons _ r => by
    show _ + 1 = _ + 1
    rw [RpVs.len r]
theorem RpVs.get {tp : Tp τ} {F : Hp} : ∀ {vs : List V} {xs : List AV} {i : Nat} {x : AV}, RpVs tp F vs xs → xs[i]? = some x → ∃ v, vs[i]? = some v ∧ RpV tp F v x
  | _, _, _, _, .nil, e => by simp at e
  | _, _, 0, _, .cons h _, e => by
    simp at e
    subst e
    exact ⟨_, rfl, h⟩
  | _, _, i + 1, d, .cons _ r, e => by
    obtain ⟨v, h1, h2⟩ := RpVs.get (i := i) (x := d) r (by simpa using e)
    exact ⟨v, by simpa using h1, h2⟩
theorem start_im {K : Frg} {vs : List V} {ds : List D} {N : List Str} {F : Hp} (hr : RpA K F vs ds) (i : Nat) : (∀ d, (ds.map SV.im ++ List.replicate (N.length - ds.length) SV.un)[i]? = some (.im d) → ∃ v, (L2.start N vs)[i]? = some (some v) ∧ Rp K F v d) ∧
    (∀ es, (ds.map SV.im ++ List.replicate (N.length - ds.length) SV.un)[i]? ≠ some (.ow es)) ∧ (ds.map SV.im ++ List.replicate (N.length - ds.length) SV.un)[i]? ≠ some .tw ∧ ∀ k, (ds.map SV.im ++ List.replicate (N.length - ds.length) SV.un)[i]? ≠ some (.gh k) := by
  unfold L2.start
  by_cases hi : i < ds.length
  · have h1 : i < (ds.map SV.im).length := by rw [List.length_map]; exact hi
    have h2 : i < (vs.map some).length := by rw [List.length_map, hr.length]; exact hi
    rw [List.getElem?_append_left h1, List.getElem?_append_left h2, List.getElem?_map, List.getElem?_map, List.getElem?_eq_getElem hi]
    refine ⟨fun d h => ?_, fun es h => ?_, fun h => ?_, fun k h => ?_⟩
    · cases h
      obtain ⟨v, e, rv⟩ := hr.get (List.getElem?_eq_getElem hi)
      rw [e]
      exact ⟨v, rfl, rv⟩
    · cases h
    · cases h
    · cases h
  · have h1 : ¬ i < (ds.map SV.im).length := by rw [List.length_map]; exact hi
    rw [List.getElem?_append_right (by omega), List.getElem?_replicate]
    refine ⟨fun d h => ?_, fun es h => ?_, fun h => ?_, fun k h => ?_⟩ <;> (split at h <;> cases h)
theorem start_rel {K : Frg} {vs : List V} {ds : List D} {N : List Str} {H : Hp} {Q : List Addr} (hr : RpA K (Fz Q H) vs ds) (hl : ds.length ≤ N.length) (pin : ∀ a ∈ Q, Pn (H a)) : BRel (tp0 Nat K) H Q Q (ds.map SV.im ++ List.replicate (N.length - ds.length) SV.un) 0 (L2.start N vs) H where
  rel := ⟨by
      unfold L2.start
      rw [List.length_append, List.length_append, List.length_map, List.length_map, List.length_replicate, List.length_replicate, hr.length], fun i d h => (start_im hr i).1 d h, fun i es h => absurd h ((start_im hr i).2.1 es), fun i j es fs p h _ _ _ => absurd h ((start_im hr i).2.1 es), fun i h => absurd h (start_im hr i).2.2.1, fun i k h => absurd h ((start_im hr i).2.2.2 k), (fun a h => False.elim h), trivial, pin⟩
  sm := Same.refl H
  sub := fun a h => h
  new := fun a h => .inl h
  own := fun i es p h _ => absurd h ((start_im hr i).2.1 es)
  twn := (fun a h => False.elim h)
/-- a def of the text over plain data -/
theorem fnP {x qual : Str} {st : Stmt} {f : Addr} {fd : FuncData} {N ps : List Str} {k : Nat} {sf : SS} (F : Fun K x qual st f fd) (S : FnScope N ps (defScope st)) (hN : ps.length ≤ N.length)
    (hbody : ∀ (cdv : Value) (A : Around) (outer : List Env) (s : Shared) (H : Hp) (E : XK), Room k (A.deeper (envOfC qual (defScope st) s.heap.objs.size f cdv)) →
      ∃ t, PSs (cxOf (L2.CX P w) P w K mg base N qual (defScope st) f cdv A outer s H E) (defBody st) t ∧ SimS (tp0 Nat K) (EcOf mg E) t sf) : FnOk P w K mg base (L2.CX P w) (k + 1) f fd ps (spP K mg (runP N.length ps.length sf)) := by
  refine F.okX S (fun vs H Q E h => ?_) (fun cdv A outer s H vs Q E hr h => ?_)
  · obtain ⟨Q1, ds, pin, hr, h⟩ := h
    rw [hr.length]
    by_cases hl : ds.length = ps.length
    · exact hl
    · unfold runP at h
      rw [if_neg hl] at h
      exact False.elim h
  · obtain ⟨Q1, ds, pin, hra, h⟩ := h
    obtain ⟨t, ht, hs⟩ := hbody cdv A outer s H E hr
    refine ⟨t, ht, ?_⟩
    unfold runP at h
    by_cases hl : ds.length = ps.length
    · rw [if_pos hl] at h
      rw [← hl] at h
      refine hs H Q1 Q1 _ 0 (L2.start N vs) H (start_rel hra (by rw [hl]; exact hN) pin) _ ?_
      cases e : sf (ds.map SV.im ++ List.replicate (N.length - ds.length) SV.un) 0 with
      | rt d n => rw [e] at h; exact fun v H' sm _ _ rv => h v H' sm rv
      | nx s' n' => rw [e] at h; exact fun P' σ' H' b => h .non H' b.sm .non
      | ex c => rw [e] at h; exact fun H' sm => h H' sm
      | bk _ _ => rw [e] at h; exact False.elim h
      | ct _ _ => rw [e] at h; exact False.elim h
      | no => rw [e] at h; exact False.elim h
    · rw [if_neg hl] at h
      exact False.elim h
theorem startT {vs : List V} {xs : List AV} {N : List Str} {F : Hp} {tp : Tp τ} (hr : RpVs tp F vs xs) (i : Nat) : (∀ d, (xs.map avS ++ List.replicate (N.length - xs.length) SV.un)[i]? = some (.im d) → ∃ v, (L2.start N vs)[i]? = some (some v) ∧ Rp tp.K F v d) ∧
    (∀ es, (xs.map avS ++ List.replicate (N.length - xs.length) SV.un)[i]? ≠ some (.ow es)) ∧ ((xs.map avS ++ List.replicate (N.length - xs.length) SV.un)[i]? = some .tw → ∃ a, tp.a = some a ∧ (L2.start N vs)[i]? = some (some (.ref a))) ∧ ∀ k, (xs.map avS ++ List.replicate (N.length - xs.length) SV.un)[i]? = some (.gh k) → ∃ a, tp.c k = some a ∧ (L2.start N vs)[i]? = some (some (.ref a)) := by
  unfold L2.start
  by_cases hi : i < xs.length
  · have h1 : i < (xs.map avS).length := by rw [List.length_map]; exact hi
    have h2 : i < (vs.map some).length := by rw [List.length_map, hr.len]; exact hi
    rw [List.getElem?_append_left h1, List.getElem?_append_left h2, List.getElem?_map, List.getElem?_map, List.getElem?_eq_getElem hi]
    obtain ⟨v, e, rv⟩ := hr.get (List.getElem?_eq_getElem hi)
    rw [e]
    cases q : xs[i] with
    | d y =>
      rw [q] at rv
      cases rv with
      | d rv => exact ⟨(fun d h => by cases h; exact ⟨v, rfl, rv⟩), (fun es h => by cases h), (fun h => by cases h), (fun k h => by cases h)⟩
    | gh k =>
      rw [q] at rv
      cases rv with
      | gh ha => exact ⟨fun d h => (by cases h), fun es h => (by cases h), fun h => (by cases h), fun k h => by cases h; exact ⟨_, ha, rfl⟩⟩
    | tw =>
      rw [q] at rv
      cases rv with
      | tw ha => exact ⟨fun d h => (by cases h), fun es h => (by cases h), fun h => ⟨_, ha, rfl⟩, fun k h => (by cases h)⟩
  · have h1 : ¬ i < (xs.map avS).length := by rw [List.length_map]; exact hi
    rw [List.getElem?_append_right (by omega), List.getElem?_replicate]
    refine ⟨fun d h => ?_, fun es h => ?_, fun h => ?_, fun k h => ?_⟩ <;> (split at h <;> cases h)
theorem startT_rel {K : Frg} {vs : List V} {xs : List AV} {N : List Str} {H : Hp} {Q : List Addr} {a : Addr} {n : Nat} (hr : RpVs (tpT K a) (Fz Q H) vs xs) (hl : xs.length ≤ N.length) (ha : a ∈ Q) (hH : H a = some (.lst (List.replicate n (.int 0)))) (pin : ∀ a ∈ Q, Pn (H a)) :
    BRel (tpT K a) (fun b => if b = a then none else H b) Q Q (xs.map avS ++ List.replicate (N.length - xs.length) SV.un) n (L2.start N vs) H where
  rel := ⟨by
      unfold L2.start
      rw [List.length_append, List.length_append, List.length_map, List.length_map, List.length_replicate, List.length_replicate, hr.len], fun i d h => (startT hr i).1 d h, fun i es h => absurd h ((startT hr i).2.1 es), fun i j es fs p h _ _ _ => absurd h ((startT hr i).2.1 es), fun i h => (startT hr i).2.2.1 h, fun i k h => (startT hr i).2.2.2 k h, fun b h => by
        cases (show b = a from h)
        exact ⟨ha, fun i es h => absurd h ((startT hr i).2.1 es)⟩, hH, pin⟩
  sm := fun b o h => by
    dsimp only at h
    split at h
    · cases h
    · exact h
  sub := fun a h => h
  new := fun a h => .inl h
  own := fun i es p h _ => absurd h ((startT hr i).2.1 es)
  twn := fun b h => if_pos h
theorem fnT {x qual : Str} {st : Stmt} {f : Addr} {fd : FuncData} {N ps : List Str} {k : Nat} {sf : SS} (F : Fun K x qual st f fd) (S : FnScope N ps (defScope st)) (hN : ps.length ≤ N.length)
    (hbody : ∀ (ta : Addr) (cdv : Value) (A : Around) (outer : List Env) (s : Shared) (H : Hp) (E : XK), Room k (A.deeper (envOfC qual (defScope st) s.heap.objs.size f cdv)) →
      ∃ t, PSs (cxOf (L2.CX P w) P w K mg base N qual (defScope st) f cdv A outer s H E) (defBody st) t ∧ SimS (tpT K ta) (EcOf mg E) t sf) : FnOk P w K mg base (L2.CX P w) (k + 1) f fd ps (spT K mg (runT N.length ps.length sf)) := by
  refine F.okX S (fun vs H Q E h => ?_) (fun cdv A outer s H vs Q E hr h => ?_)
  · obtain ⟨Q1, a, n, xs, ha, hH, pin, hr, h⟩ := h
    rw [hr.len]
    by_cases hl : xs.length = ps.length
    · exact hl
    · unfold runT at h
      rw [if_neg hl] at h
      exact False.elim h
  · obtain ⟨Q1, a, n, xs, ha, hH, pin, hra, h⟩ := h
    obtain ⟨t, ht, hs⟩ := hbody a cdv A outer s H E hr
    refine ⟨t, ht, ?_⟩
    unfold runT at h
    by_cases hl : xs.length = ps.length
    · rw [if_pos hl] at h
      rw [← hl] at h
      refine hs _ Q1 Q1 _ n (L2.start N vs) H (startT_rel hra (by rw [hl]; exact hN) ha hH pin) _ ?_
      cases e : sf (xs.map avS ++ List.replicate (N.length - xs.length) SV.un) n with
      | rt d n => rw [e] at h; exact fun v H' sm hv _ rv => h v H' (fun b o hb ho => sm b o (by dsimp only; rw [if_neg fun z : b = a => hb z]; exact ho)) hv rv
      | nx s' n' => rw [e] at h; exact False.elim h
      | ex c => rw [e] at h; exact False.elim h
      | bk _ _ => rw [e] at h; exact False.elim h
      | ct _ _ => rw [e] at h; exact False.elim h
      | no => rw [e] at h; exact False.elim h
    · rw [if_neg hl] at h
      exact False.elim h
end
/-! ### calls -/
section
variable {tp : Tp τ} {Ec : EC} {mg : Str → Option Value} {tr : TA} {fr : SAg τ} {E : XK}
def liftR (r : R D) (n : τ) : R (D × τ) := match r with
  | .ok d => .ok (d, n)
  | .ex c => .ex c
  | .no => .no
def sCallP (g : List D → R D) (fr : SAg τ) : SEg τ := fun s n => bindE (fr s n) fun xs n1 => match plain xs with
  | some ds => liftR (g ds) n1
  | none => .no
theorem sim_callP {g : List D → R D} (hE : ∀ c H, Ec c H → EcOf mg E c H) (hr : SimA tp Ec tr fr) : SimE tp Ec (tCall (spP tp.K mg g) [] E tr) (sCallP g fr) := fun P s n σ H r Q hq =>
  hr P s n σ H r _ (hq.bind fun xs n1 vs H1 r1 e1 rv q1 => by
    rw [List.append_nil]
    cases e : plain xs with
    | none => rw [e] at q1; exact False.elim q1
    | some ds =>
      rw [e] at q1
      refine ⟨P, ds, r1.pin, plain_rp rv e, ?_⟩
      have q1 : Post (Rp tp.K) tp Ec P s σ H1 (liftR (g ds) n1) Q := q1
      cases eg : g ds with
      | ok d => rw [eg] at q1; exact fun v H' sm rd => q1.pure r1 sm rd
      | ex c => rw [eg] at q1; exact fun H' sm => hE c H' (q1 H' (Same.toT sm))
      | no => rw [eg] at q1; exact q1)
def sCallT (g : List AV → Nat → R (D × Nat)) (fr : SA) : SE := fun s n => bindE (fr s n) fun xs n1 => if xs.any (fun x => match x with | .tw => true | _ => false) then noEx (g xs n1) else .no
theorem sim_callT {K : Frg} {a : Addr} {fr : SA} {g : List AV → Nat → R (D × Nat)} (hr : SimA (tpT K a) Ec tr fr) : SimE (tpT K a) Ec (tCall (spT K mg g) [] E tr) (sCallT g fr) := fun P s n σ H r Q hq =>
  hr P s n σ H r _ (hq.bind fun xs n1 vs H1 r1 e1 rv q1 => by
    rw [List.append_nil]
    split at q1
    · rename_i ht
      refine ⟨P, a, n1, xs, (r1.gp a rfl).1, r1.iv, r1.pin, rv, ?_⟩
      cases eg : g xs n1 with
      | ok d =>
        rw [eg] at q1
        exact fun v H' sm hv rd => q1 v H' (r1.keep sm hv fun b hb => by
          cases (show b = a from hb)
          rw [hv]
          exact Pn.lst) sm rd
      | ex c => rw [eg] at q1; exact q1
      | no => rw [eg] at q1; exact q1
    · exact False.elim q1)
end
end G
end

section
set_option Elab.async false
set_option linter.all false
set_option backward.match.sparseCases false
set_option maxRecDepth 100000
/-! max, min, sum of a tuple of ints. -/
namespace G
open L2 PySem PyProof.Rows PySem.Spec
section
variable {prog : Program} {w : World} {A : Around} {E : Value → Shared → Prop} {s : Shared} {l : Addr} {xs : Array (Int × Tok)}
theorem iterT {Q : Value → Shared → Prop} (hl : s.heap.IsTuple l (intItems xs))
    (h : ∀ s2 : Shared, s2 = { s with heap := s.heap.push { cls := .type "tuple_iterator", data := .fields #[.ref l, .int 0 0] } } →
      (s2.heap.IsTupleIter s.heap.objs.size l 0 ∧ s2.heap.IsTuple l (intItems xs)) → (∀ b ∈ [s.heap.objs.size, l], b < s2.heap.objs.size) → l ≠ s.heap.objs.size → Q (.ref s.heap.objs.size) s2) :
    wpAny (model prog w) A (pyIter (.ref l)) Q E s := by
  have hlt : l < s.heap.objs.size := by
    obtain ⟨_, e, _⟩ := hl
    exact Heap.lt_size e
  refine wpAny_pyIter_tuple hl (h _ rfl ⟨⟨_, Heap.get?_push_size _ rfl, rfl, rfl⟩, hl.push _⟩ (fun b hb => ?_) (Nat.ne_of_lt hlt))
  show b < (s.heap.push _).objs.size
  rw [Heap.size_push]
  simp only [List.mem_cons, List.not_mem_nil, or_false] at hb
  rcases hb with rfl | rfl
  · exact Nat.lt_succ_self _
  · exact Nat.lt_succ_of_lt hlt
theorem keptT {o' : Obj} {h' : Heap} (hk : ∀ b o, b ∉ [s.heap.objs.size] → (s.heap.push o').get? b = some o → h'.get? b = some o) : ∀ b o, s.heap.get? b = some o → h'.get? b = some o := fun b o e => by
  refine hk b o (fun hm => ?_) (Heap.get?_push_of_some _ e)
  have h1 := Heap.lt_size e
  rw [List.mem_singleton.mp hm] at h1
  exact Nat.lt_irrefl _ h1
variable {its : List Value} {ns : List Int} {Q : Value → Shared → Prop}
theorem sumT_raw (hh : A.handled = none) (hl : s.heap.IsTuple l its.toArray) (hi : IntsAre its ns)
    (h : ∀ h' tk t', (∀ b o, s.heap.get? b = some o → h'.get? b = some o) → Q (.int ns.sum t') { s with heap := h', toks := tk }) : wpAny (model prog w) A (call (.builtin "sum") [.ref l]) Q E s := by
  obtain ⟨xs, e⟩ := hi.allInts.items
  have hn : numsOf (intItems xs).toList = ns := by rw [← e]; exact hi.numsOf
  rw [nums_intItems] at hn
  rw [e] at hl
  refine call_sum_walkG (iterT hl fun s2 e st hfp hlI => ?_)
  subst e
  refine ⟨_, _, _, _, _, _, numAt xs, rfl, Walks.tuple (A := A.in1) hh _ l hlI (intItems xs), st, hfp, (fun _ _ => intItems_at), fun h' tk t' hk => ?_⟩
  have h2 := h h' tk t' (keptT hk)
  have h3 : preSum (numAt xs) (intItems xs).size = ns.sum := by
    rw [preSum_eq, show (intItems xs).size = xs.size by simp [intItems], List.take_of_length_le (by simp), hn]
  rw [h3]
  exact h2
theorem maxT_raw (hh : A.handled = none) (hl : s.heap.IsTuple l its.toArray) (hi : IntsAre its ns) (hne : 0 < ns.length)
    (h : ∀ h' tk M t', (∀ b o, s.heap.get? b = some o → h'.get? b = some o) → M ∈ ns → (∀ a, a ∈ ns → a ≤ M) → Q (.int M t') { s with heap := h', toks := tk }) : wpAny (model prog w) A (call (.builtin "max") [.ref l]) Q E s := by
  obtain ⟨xs, e⟩ := hi.allInts.items
  have hn : numsOf (intItems xs).toList = ns := by rw [← e]; exact hi.numsOf
  rw [nums_intItems] at hn
  subst hn
  rw [e] at hl
  have hsz : 0 < xs.size := by simpa using hne
  refine call_max_walk (iterT hl fun s2 e st hfp hlI => ?_)
  subst e
  refine ⟨_, _, _, _, _, _, _, rfl, Walks.tuple (A := A.in1) hh _ l hlI (intItems xs), st, hfp, by simpa [intItems] using hsz, CmpOf.ints_gt (numAt xs) (fun _ _ => intItems_at), fun v h' tk hv hk => ?_⟩
  have es : (intItems xs).size = xs.size := by simp [intItems]
  rw [es] at hv
  obtain ⟨t, rfl⟩ := intItems_at hv
  obtain ⟨h1, h2⟩ := argBest_gt (numAt xs) (xs.size - 1)
  refine h h' tk _ t (keptT hk) ?_ fun a ha => ?_
  · rw [numAt_eq]; exact PySem.getD_mem (by rw [List.length_map, Array.length_toList]; omega)
  · obtain ⟨j, hj, rfl⟩ := mem_getD ha
    rw [List.length_map, Array.length_toList] at hj
    rw [← numAt_eq]; exact h2 j (by omega)
theorem minT_raw (hh : A.handled = none) (hl : s.heap.IsTuple l its.toArray) (hi : IntsAre its ns) (hne : 0 < ns.length)
    (h : ∀ h' tk M t', (∀ b o, s.heap.get? b = some o → h'.get? b = some o) → M ∈ ns → (∀ a, a ∈ ns → M ≤ a) → Q (.int M t') { s with heap := h', toks := tk }) : wpAny (model prog w) A (call (.builtin "min") [.ref l]) Q E s := by
  obtain ⟨xs, e⟩ := hi.allInts.items
  have hn : numsOf (intItems xs).toList = ns := by rw [← e]; exact hi.numsOf
  rw [nums_intItems] at hn
  subst hn
  rw [e] at hl
  have hsz : 0 < xs.size := by simpa using hne
  refine call_min_walk (iterT hl fun s2 e st hfp hlI => ?_)
  subst e
  refine ⟨_, _, _, _, _, _, _, rfl, Walks.tuple (A := A.in1) hh _ l hlI (intItems xs), st, hfp, by simpa [intItems] using hsz, CmpOf.ints_lt (numAt xs) (fun _ _ => intItems_at), fun v h' tk hv hk => ?_⟩
  have es : (intItems xs).size = xs.size := by simp [intItems]
  rw [es] at hv
  obtain ⟨t, rfl⟩ := intItems_at hv
  obtain ⟨h1, h2⟩ := argBest_lt (numAt xs) (xs.size - 1)
  refine h h' tk _ t (keptT hk) ?_ fun a ha => ?_
  · rw [numAt_eq]; exact PySem.getD_mem (by rw [List.length_map, Array.length_toList]; omega)
  · obtain ⟨j, hj, rfl⟩ := mem_getD ha
    rw [List.length_map, Array.length_toList] at hj
    rw [← numAt_eq]; exact h2 j (by omega)
end
section
variable {X : Cx}
def rSumT (K : Frg) : List V → Hp → VK → Prop := fun vs H Q => ∃ (a : Addr) (ns : List Int), vs = [V.ref a] ∧ SqT K H a (ns.map V.int) ∧ Q (.int ns.sum) H
def rMaxT (K : Frg) : List V → Hp → VK → Prop := fun vs H Q => ∃ (a : Addr) (ns : List Int), vs = [V.ref a] ∧ SqT K H a (ns.map V.int) ∧ 0 < ns.length ∧ ∀ m, m ∈ ns → (∀ y, y ∈ ns → y ≤ m) → Q (.int m) H
def rMinT (K : Frg) : List V → Hp → VK → Prop := fun vs H Q => ∃ (a : Addr) (ns : List Int), vs = [V.ref a] ∧ SqT K H a (ns.map V.int) ∧ 0 < ns.length ∧ ∀ m, m ∈ ns → (∀ y, y ∈ ns → m ≤ y) → Q (.int m) H
theorem cr_sumT (hc : X.calm = true) : CallR X (.builtin "sum") (rSumT X.K) := by
  intro pins s σ H vs us Q I r h
  obtain ⟨a, ns, rfl, hs, q⟩ := h
  obtain ⟨its, rv, hl, _⟩ := I.tuple hs
  rw [Vals.ref1 r]
  exact sumT_raw (I.ok.hd hc) hl rv.ints fun h' tk t' hk => ⟨.int _, H, I.kept hk, ⟨_, rfl⟩, q⟩
theorem cr_maxT (hc : X.calm = true) : CallR X (.builtin "max") (rMaxT X.K) := by
  intro pins s σ H vs us Q I r h
  obtain ⟨a, ns, rfl, hs, hne, q⟩ := h
  obtain ⟨its, rv, hl, _⟩ := I.tuple hs
  rw [Vals.ref1 r]
  exact maxT_raw (I.ok.hd hc) hl rv.ints hne fun h' tk m t' hk h1 h2 => ⟨.int _, H, I.kept hk, ⟨_, rfl⟩, q m h1 h2⟩
theorem cr_minT (hc : X.calm = true) : CallR X (.builtin "min") (rMinT X.K) := by
  intro pins s σ H vs us Q I r h
  obtain ⟨a, ns, rfl, hs, hne, q⟩ := h
  obtain ⟨its, rv, hl, _⟩ := I.tuple hs
  rw [Vals.ref1 r]
  exact minT_raw (I.ok.hd hc) hl rv.ints hne fun h' tk m t' hk h1 h2 => ⟨.int _, H, I.kept hk, ⟨_, rfl⟩, q m h1 h2⟩
end
end G
end

section
set_option Elab.async false
set_option linter.all false
set_option backward.match.sparseCases false
set_option maxRecDepth 100000
namespace G
open L2 PySem PyProof.Rows PySem.Spec
section
variable {K : Frg}
theorem fz_new {P : List Addr} {H : Hp} {p : Addr} {o : HO} (pin : ∀ a ∈ P, Pn (H a)) (h : H p = none) : Fz P (upd H p o) p = some o := by
  rw [Fz_out fun z => pin p z h, upd_same]
theorem RpA.grow {P : List Addr} {H H' : Hp} {xs : List V} {ds : List D} (h : RpA K (Fz P H) xs ds) (e : Same H H') : RpA K (Fz P H') xs ds := h.mono (Fz_mono e)
theorem Rp.grow {P : List Addr} {H H' : Hp} {xs : V} {ds : D} (h : Rp K (Fz P H) xs ds) (e : Same H H') : Rp K (Fz P H') xs ds := h.mono (Fz_mono e)
theorem new_lst {P : List Addr} {H : Hp} {p : Addr} {xs : List V} {ds : List D} {Q : VK} (pin : ∀ a ∈ P, Pn (H a)) (h : RpA K (Fz P H) xs ds) (q : ∀ v H', Same H H' → Rp K (Fz P H') v (.lst ds) → Q v H') (hp : H p = none) : Q (.ref p) (upd H p (.lst xs)) :=
  q _ _ (same_new hp) (.lst (fz_new pin hp) (h.grow (same_new hp)))
theorem new_tup {P : List Addr} {H : Hp} {p : Addr} {xs : List V} {ds : List D} {Q : VK} (pin : ∀ a ∈ P, Pn (H a)) (h : RpA K (Fz P H) xs ds) (q : ∀ v H', Same H H' → Rp K (Fz P H') v (.tup ds) → Q v H') (hp : H p = none) : Q (.ref p) (upd H p (.tup xs)) :=
  q _ _ (same_new hp) (.tup (fz_new pin hp) (h.grow (same_new hp)))
/-! ### + -/
def dAdd : D → D → Option D
  | .int a, .int b => some (.int (a + b))
  | .lst xs, .lst ys => if xs.length + ys.length < big then some (.lst (xs ++ ys)) else none
  | .tup xs, .tup ys => if xs.length + ys.length < big then some (.tup (xs ++ ys)) else none
  | .str x, .str y => if x.length + y.length < big then some (.str (x ++ y)) else none
  | _, _ => none
abbrev rStrCat : R2 := fun x y H Q => ∃ i j, x = .str i ∧ y = .str j ∧ i.length + j.length ≤ sizeLine ∧ Q (.str (i ++ j)) H
abbrev rAddU (K : Frg) : R2 := fun x y H Q => (rI0 fun i j => .int (i + j)) x y H Q ∨ (rCat x y H Q ∨ (rCatA K x y H Q ∨ rStrCat x y H Q))
theorem o_add {X : Cx} : OpR X (binaryOp .Add) (rAddU X.K) := op_add.or (op_cat.or (op_catA.or op_add_str))
theorem s_add : OpS K (rAddU K) dAdd := fun P x y d e z H Q pin hx hy hg q => by
  unfold dAdd at hg
  split at hg
  · cases hg
    rw [hx.int_inv, hy.int_inv]
    exact .inl ⟨_, _, rfl, rfl, q _ H (Same.refl H) (.int _)⟩
  · rename_i ds es
    split at hg
    · cases hg
      rename_i hb
      obtain ⟨a, xs, rfl, ha, hxs⟩ := hx.lst_inv
      obtain ⟨b, ys, rfl, hb', hys⟩ := hy.lst_inv
      exact .inr (.inl ⟨a, b, xs, ys, rfl, rfl, Fz_sub _ _ _ _ ha, Fz_sub _ _ _ _ hb', by rw [hxs.length, hys.length]; exact big_le hb, fun p hp => new_lst pin (hxs.append hys) q hp⟩)
    · cases hg
  · rename_i ds es
    split at hg
    · cases hg
      rename_i hb
      obtain ⟨a, xs, rfl, ha, hxs⟩ := hx.tup_inv
      obtain ⟨b, ys, rfl, hb', hys⟩ := hy.tup_inv
      refine .inr (.inr (.inl ⟨a, b, xs, ys, rfl, rfl, .inl (.inl (Fz_sub _ _ _ _ ha)), .inl (.inl (Fz_sub _ _ _ _ hb')), by rw [hxs.length, hys.length]; exact big_le hb, fun e0 => ?_, fun _ e0 => ?_, fun _ _ p hp => new_tup pin (hxs.append hys) q hp⟩))
      · subst e0
        cases hxs
        exact q _ H (Same.refl H) hy
      · subst e0
        cases hys
        rw [List.append_nil] at q
        exact q _ H (Same.refl H) hx
    · cases hg
  · split at hg
    · cases hg
      rename_i hb
      rw [hx.str_inv, hy.str_inv]
      exact .inr (.inr (.inr ⟨_, _, rfl, rfl, big_le hb, q _ H (Same.refl H) (.str _)⟩))
    · cases hg
  · cases hg
/-- + of two lists: a new one -/
def lAdd : D → D → Option (List D)
  | .lst xs, .lst ys => if xs.length + ys.length < big then some (xs ++ ys) else none
  | _, _ => none
theorem n_add : OpN K (rAddU K) lAdd := fun P x y d e zs H Q pin hx hy hg q => by
  unfold lAdd at hg
  split at hg
  · split at hg
    · cases hg
      rename_i hb
      obtain ⟨a, xs, rfl, ha, hxs⟩ := hx.lst_inv
      obtain ⟨b, ys, rfl, hb', hys⟩ := hy.lst_inv
      exact .inr (.inl ⟨a, b, xs, ys, rfl, rfl, Fz_sub _ _ _ _ ha, Fz_sub _ _ _ _ hb', by rw [hxs.length, hys.length]; exact big_le hb, fun p hp => q p _ hp (hxs.append hys)⟩)
    · cases hg
  · cases hg
/-! ### -, *, //, %, ** -/
def dI2 (g : Int → Int → Option D) : D → D → Option D
  | .int a, .int b => g a b
  | _, _ => none
theorem dI2_inv {g : Int → Int → Option D} {d e z : D} (h : dI2 g d e = some z) : ∃ a b, d = .int a ∧ e = .int b ∧ g a b = some z := by
  unfold dI2 at h
  split at h
  · exact ⟨_, _, rfl, rfl, h⟩
  · cases h
def dSub : D → D → Option D := dI2 fun a b => some (.int (a - b))
theorem o_sub {X : Cx} : OpR X (binaryOp .Sub) (rI0 fun i j => .int (i - j)) := op_sub
theorem s_sub : OpS K (rI0 fun i j => .int (i - j)) dSub := fun P x y d e z H Q pin hx hy hg q => by
  obtain ⟨a, b, rfl, rfl, hz⟩ := dI2_inv hg
  cases hz
  rw [hx.int_inv, hy.int_inv]
  exact ⟨a, b, rfl, rfl, q _ H (Same.refl H) (.int _)⟩
def mulOk (a b : Int) : Bool := okI 9223372036854775808 a || okI 9223372036854775808 b
theorem mulOk_spec {a b : Int} (h : mulOk a b = true) : CMul a b := by
  unfold mulOk at h
  rw [Bool.or_eq_true] at h
  rcases h with h | h
  · have := okI_spec h
    exact .inl ⟨by omega, by omega⟩
  · have := okI_spec h
    exact .inr ⟨by omega, by omega⟩
def lMul : D → D → Option (List D)
  | .lst xs, .int k => if okI 10000000 k = true ∧ xs.length * k.toNat < big then some (List.replicate k.toNat xs).flatten else none
  | _, _ => none
def dMul : D → D → Option D
  | .int a, .int b => if mulOk a b = true then some (.int (a * b)) else none
  | d, e => (lMul d e).map D.lst
abbrev rMulU : R2 := fun x y H Q => (rI CMul fun i j => .int (i * j)) x y H Q ∨ rRep x y H Q
theorem o_mul {X : Cx} : OpR X (binaryOp .Mult) rMulU := op_mul.or op_rep
theorem RpA.flat {F : Hp} {xs : List V} {ds : List D} (h : RpA K F xs ds) : ∀ k : Nat, RpA K F (List.replicate k xs).flatten (List.replicate k ds).flatten
  | 0 => .nil
  | k + 1 => by
    rw [List.replicate_succ, List.replicate_succ, List.flatten_cons, List.flatten_cons]
    exact h.append (RpA.flat h k)
theorem n_mul : OpN K rMulU lMul := fun P x y d e zs H Q pin hx hy hg q => by
  unfold lMul at hg
  split at hg
  · split at hg
    · cases hg
      rename_i hb
      obtain ⟨a, xs, rfl, ha, hxs⟩ := hx.lst_inv
      rw [hy.int_inv]
      have hk := okI_spec hb.1
      exact .inr ⟨a, _, xs, rfl, rfl, Fz_sub _ _ _ _ ha, by omega, by omega, by rw [hxs.length]; exact big_le hb.2, fun p hp => q p _ hp (RpA.flat hxs _)⟩
    · cases hg
  · cases hg
theorem s_mul : OpS K rMulU dMul := fun P x y d e z H Q pin hx hy hg q => by
  unfold dMul at hg
  split at hg
  · split at hg
    · cases hg
      rename_i hb
      have hb := mulOk_spec hb
      rw [hx.int_inv, hy.int_inv]
      exact .inl ⟨_, _, rfl, rfl, hb, q _ H (Same.refl H) (.int _)⟩
    · cases hg
  · rename_i hn
    cases e1 : lMul d e with
    | none => rw [e1] at hg; cases hg
    | some zs =>
      rw [e1] at hg
      cases hg
      exact n_mul P x y d e zs H Q pin hx hy e1 fun p xs hp hxs => new_lst pin hxs q hp
/-- above 0 -/
def posI (i : Int) : Bool := match i with
  | .ofNat (_ + 1) => true
  | _ => false
theorem posI_spec {i : Int} (h : posI i = true) : 0 < i := by
  cases i with
  | ofNat n =>
    cases n with
    | zero => cases h
    | succ n => rw [ofN]; omega
  | negSucc n => cases h
theorem posI_of {i : Int} (h : 0 < i) : posI i = true := by
  cases i with
  | ofNat n =>
    cases n with
    | zero => rw [ofN] at h; omega
    | succ n => rfl
  | negSucc n => omega
def dFdiv : D → D → Option D := dI2 fun a b => if posI b = true ∧ okI 1073741824 b = true then some (.int (a / b)) else none
theorem s_fdiv : OpS K (rI CDiv fun i j => .int (i / j)) dFdiv := fun P x y d e z H Q pin hx hy hg q => by
  obtain ⟨a, b, rfl, rfl, hz⟩ := dI2_inv hg
  split at hz
  · rename_i hb
    cases hz
    rw [hx.int_inv, hy.int_inv]
    exact ⟨a, b, rfl, rfl, ⟨posI_spec hb.1, (okI_spec hb.2).2⟩, q _ H (Same.refl H) (.int _)⟩
  · cases hz
def dMod : D → D → Option D := dI2 fun a b => if posI b = true then some (.int (a % b)) else none
theorem s_mod : OpS K (rI (fun _ j => 0 < j) fun i j => .int (i % j)) dMod := fun P x y d e z H Q pin hx hy hg q => by
  obtain ⟨a, b, rfl, rfl, hz⟩ := dI2_inv hg
  split at hz
  · rename_i hb
    cases hz
    rw [hx.int_inv, hy.int_inv]
    exact ⟨a, b, rfl, rfl, posI_spec hb, q _ H (Same.refl H) (.int _)⟩
  · cases hz
def dPow : D → D → Option D := dI2 fun a b => if okI 9223372036854775808 a = true ∧ okI 1000 b = true ∧ posI b = true then some (.int (a ^ b.toNat)) else none
theorem s_pow : OpS K (rI CPow fun i j => .int (i ^ j.toNat)) dPow := fun P x y d e z H Q pin hx hy hg q => by
  obtain ⟨a, b, rfl, rfl, hz⟩ := dI2_inv hg
  split at hz
  · rename_i hb
    cases hz
    have h1 := okI_spec hb.1
    have h2 := okI_spec hb.2.1
    have h3 := posI_spec hb.2.2
    rw [hx.int_inv, hy.int_inv]
    exact ⟨a, b, rfl, rfl, ⟨by omega, by omega, by omega⟩, q _ H (Same.refl H) (.int _)⟩
  · cases hz
def dNeg : D → Option D
  | .int a => some (.int (-a))
  | _ => none
theorem s_neg : UnS K (rU fun i => .int (-i)) dNeg := fun P x d z H Q pin hx hg q => by
  cases d with
  | int a =>
    cases hg
    rw [hx.int_inv]
    exact ⟨a, rfl, q _ H (Same.refl H) (.int _)⟩
  | _ => cases hg
/-! ### comparisons of ints -/
def dCmp (p : Int → Int → Bool) : D → D → Option D := dI2 fun a b => some (.bl (p a b))
theorem s_cmp (p : Int → Int → Bool) : OpS K (rI0 fun i j => .bl (p i j)) (dCmp p) := fun P x y d e z H Q pin hx hy hg q => by
  obtain ⟨a, b, rfl, rfl, hz⟩ := dI2_inv hg
  cases hz
  rw [hx.int_inv, hy.int_inv]
  exact ⟨a, b, rfl, rfl, q _ H (Same.refl H) (.bl _)⟩
/-- i < j, by a test that reckons well -/
def ltI (i j : Int) : Bool := match i, j with
  | .ofNat m, .ofNat n => Nat.blt m n
  | .negSucc _, .ofNat _ => true
  | .ofNat _, .negSucc _ => false
  | .negSucc m, .negSucc n => Nat.blt n m
theorem ltI_eq (i j : Int) : ltI i j = decide (i < j) := by
  rw [Bool.eq_iff_iff, decide_eq_true_iff]
  cases i with
  | ofNat n =>
    cases j with
    | ofNat m =>
      have h : ltI (Int.ofNat n) (Int.ofNat m) = true ↔ n < m := iff_of_eq Nat.blt_eq
      rw [h, ofN, ofN]
      omega
    | negSucc m =>
      rw [ofN]
      exact ⟨fun h => (nomatch h), fun h => by omega⟩
  | negSucc n =>
    cases j with
    | ofNat m =>
      rw [ofN]
      exact ⟨fun _ => by omega, fun _ => rfl⟩
    | negSucc m =>
      have h : ltI (Int.negSucc n) (Int.negSucc m) = true ↔ m < n := iff_of_eq Nat.blt_eq
      rw [h]
      omega
def leI (i j : Int) : Bool := !ltI j i
theorem leI_eq (i j : Int) : leI i j = decide (i ≤ j) := by
  unfold leI
  rw [ltI_eq, Bool.eq_iff_iff, decide_eq_true_iff, Bool.not_eq_true', decide_eq_false_iff_not]
  omega
def dLt : D → D → Option D := dCmp ltI
def dLe : D → D → Option D := dCmp leI
def dGt : D → D → Option D := dCmp fun i j => ltI j i
def dGe : D → D → Option D := dCmp fun i j => leI j i
theorem s_lt : OpS K (rI0 fun i j => .bl (decide (i < j))) dLt := by
  have e : (fun i j : Int => V.bl (decide (i < j))) = fun i j => V.bl (ltI i j) := by funext i j; rw [ltI_eq]
  rw [e]
  exact s_cmp _
theorem s_le : OpS K (rI0 fun i j => .bl (decide (i ≤ j))) dLe := by
  have e : (fun i j : Int => V.bl (decide (i ≤ j))) = fun i j => V.bl (leI i j) := by funext i j; rw [leI_eq]
  rw [e]
  exact s_cmp _
theorem s_gt : OpS K (rI0 fun i j => .bl (decide (j < i))) dGt := by
  have e : (fun i j : Int => V.bl (decide (j < i))) = fun i j => V.bl (ltI j i) := by funext i j; rw [ltI_eq]
  rw [e]
  exact s_cmp fun i j => ltI j i
theorem s_ge : OpS K (rI0 fun i j => .bl (decide (j ≤ i))) dGe := by
  have e : (fun i j : Int => V.bl (decide (j ≤ i))) = fun i j => V.bl (leI j i) := by funext i j; rw [leI_eq]
  rw [e]
  exact s_cmp fun i j => leI j i
/-! ### ==, != of data -/
mutual
def D.py : D → PyData
  | .non => .none
  | .bl b => .bool b
  | .int i => .int i
  | .str x => .str x
  | .lst ds => .list (pyA ds)
  | .tup ds => .tuple (pyA ds)
  | .scr ns => .list (ns.map PyData.int)
  | .dct _ => .dict []
  | .dtb _ => .dict []
  | .cli _ _ => .dict []
def pyA : List D → List PyData
  | [] => []
  | d :: ds => d.py :: pyA ds
end
theorem dpA_ints (H : Hp) : ∀ ns : List Int, DpAll K H (ns.map V.int) (ns.map PyData.int)
  | [] => .nil
  | n :: ns => .cons (.int n) (dpA_ints H ns)
mutual
theorem Rp.dp {F H : Hp} (e : Same F H) : ∀ {v : V} {d : D}, Rp K F v d → d.py.canLay0 = true → Dp K H v d.py
  | _, _, .non, _ => .non
  | _, _, .bl b, _ => .bl b
  | _, _, .int i, _ => .int i
  | _, _, .str x, _ => .str x
  | _, _, .lst h r, c => .lst (.inl (.inl (e _ _ h))) (RpA.dp e r (by simpa [D.py, PyData.canLay0] using c))
  | _, _, .tup h r, c => .tup (.inl (.inl (e _ _ h))) (RpA.dp e r (by simpa [D.py, PyData.canLay0] using c))
  | _, _, .scr h, _ => .lst (e.seq h) (dpA_ints H _)
  | _, _, .dct _ _, c => by simp [D.py, PyData.canLay0] at c
  | _, _, .dtb _ _, c => by simp [D.py, PyData.canLay0] at c
  | _, _, .cli _ _ _ _ _, c => by simp [D.py, PyData.canLay0] at c
theorem RpA.dp {F H : Hp} (e : Same F H) : ∀ {vs : List V} {ds : List D}, RpA K F vs ds → PyData.canLayAll0 (pyA ds) = true → DpAll K H vs (pyA ds)
  | _, _, .nil, _ => .nil
  | _, _, .cons h r, c => by
    simp only [pyA, PyData.canLayAll0, Bool.and_eq_true] at c
    exact .cons (Rp.dp e h c.1) (RpA.dp e r c.2)
end
def okD (d : D) : Bool := SeqAt.shaped d.py
def eqD (d e : D) : Bool := PyData.eqv d.py e.py
def dEq (d e : D) : Option D := if okD d = true ∧ okD e = true then some (.bl (eqD d e)) else none
def dNe (d e : D) : Option D := if okD d = true ∧ okD e = true then some (.bl (!eqD d e)) else none
theorem s_eq : OpS K (rEqD K) dEq := fun P x y d e z H Q pin hx hy hg q => by
  unfold dEq at hg
  split at hg
  · rename_i h
    cases hg
    exact ⟨d.py, e.py, hx.dp (Fz_sub P H) (SeqAt.canLay_of_shaped h.1), hy.dp (Fz_sub P H) (SeqAt.canLay_of_shaped h.2), h.1, h.2, q _ H (Same.refl H) (.bl _)⟩
  · cases hg
theorem s_ne : OpS K (rNeD K) dNe := fun P x y d e z H Q pin hx hy hg q => by
  unfold dNe at hg
  split at hg
  · rename_i h
    cases hg
    exact ⟨d.py, e.py, hx.dp (Fz_sub P H) (SeqAt.canLay_of_shaped h.1), hy.dp (Fz_sub P H) (SeqAt.canLay_of_shaped h.2), h.1, h.2, q _ H (Same.refl H) (.bl _)⟩
  · cases hg
/-! ### is -/
def isN : D → Bool
  | .non => true
  | _ => false
theorem isN_v {F : Hp} {v : V} {d : D} (h : Rp K F v d) : decide (v = .non) = isN d := by
  cases h <;> rfl
abbrev rIsNone : R2 := fun x y H Q => y = .non ∧ Q (.bl (decide (x = .non))) H
abbrev rNotNone : R2 := fun x y H Q => y = .non ∧ Q (.bl (!decide (x = .non))) H
abbrev rIsU : R2 := fun x y H Q => rIsNone x y H Q ∨ rIsB x y H Q
abbrev rNotU : R2 := fun x y H Q => rNotNone x y H Q ∨ rNotB x y H Q
theorem o_is {X : Cx} : OpR X (compareOp .Is) rIsU := op_isN.or op_isBl
theorem o_isnot {X : Cx} : OpR X (compareOp .IsNot) rNotU := op_notN.or op_notBl
def dIs : D → D → Option D
  | d, .non => some (.bl (isN d))
  | .bl a, .bl b => some (.bl (decide (a = b)))
  | _, _ => none
def dIsNot : D → D → Option D
  | d, .non => some (.bl (!isN d))
  | .bl a, .bl b => some (.bl (!decide (a = b)))
  | _, _ => none
theorem s_is : OpS K rIsU dIs := fun P x y d e z H Q pin hx hy hg q => by
  unfold dIs at hg
  split at hg
  · cases hg
    refine .inl ⟨hy.non_inv, ?_⟩
    rw [isN_v hx]
    exact q _ H (Same.refl H) (.bl _)
  · cases hg
    exact .inr ⟨_, _, hx.bl_inv, hy.bl_inv, q _ H (Same.refl H) (.bl _)⟩
  · cases hg
theorem s_isnot : OpS K rNotU dIsNot := fun P x y d e z H Q pin hx hy hg q => by
  unfold dIsNot at hg
  split at hg
  · cases hg
    refine .inl ⟨hy.non_inv, ?_⟩
    rw [isN_v hx]
    exact q _ H (Same.refl H) (.bl _)
  · cases hg
    exact .inr ⟨_, _, hx.bl_inv, hy.bl_inv, q _ H (Same.refl H) (.bl _)⟩
  · cases hg
/-! ### in -/
def eqF : D → D → Bool
  | .non, .non => true
  | .bl a, .bl b => a == b
  | .bl a, .int b => (if a then 1 else 0) == b
  | .int a, .bl b => a == (if b then 1 else 0)
  | .int a, .int b => a == b
  | .str a, .str b => a == b
  | _, _ => false
theorem flat_v {F : Hp} {v : V} {d : D} (h : Rp K F v d) (hf : flatD d = true) : flatV v = true := by
  cases h <;> first | rfl | cases hf
theorem eqF_v {F F' : Hp} {v u : V} {d e : D} (h : Rp K F v d) (h' : Rp K F' u e) (hf : flatD d = true) (hf' : flatD e = true) : eqV v u = eqF d e := by
  cases h <;> cases h' <;> first | rfl | cases hf | cases hf'
theorem allFlat_v {F : Hp} : ∀ {vs : List V} {ds : List D}, RpA K F vs ds → ds.all flatD = true → vs.all flatV = true
  | _, _, .nil, _ => rfl
  | _, _, .cons h r, hf => by
    rw [List.all_cons, Bool.and_eq_true] at hf ⊢
    exact ⟨flat_v h hf.1, allFlat_v r hf.2⟩
theorem inV_v {F : Hp} {u : V} {e : D} (he : Rp K F u e) (hf : flatD e = true) : ∀ {vs : List V} {ds : List D}, RpA K F vs ds → ds.all flatD = true → inV u vs = ds.any fun y => eqF y e
  | _, _, .nil, _ => rfl
  | _, _, .cons h r, hd => by
    rw [List.all_cons, Bool.and_eq_true] at hd
    have ih := inV_v he hf r hd.2
    unfold inV at ih ⊢
    rw [List.any_cons, List.any_cons, ih, eqF_v h he hd.1 hf]
abbrev rDIn : R2 := fun x y H Q => ∃ a o, y = .ref a ∧ DGet H a x o ∧ Q (.bl o.isSome) H
abbrev rDNotIn : R2 := fun x y H Q => ∃ a o, y = .ref a ∧ DGet H a x o ∧ Q (.bl (!o.isSome)) H
theorem op_dIn {X : Cx} (hu : X.A.units + 1 < cLine) : OpR X (compareOp .In) rDIn := by
  intro pins s σ H x y v u Q I rx ry h
  obtain ⟨a, o, rfl, g, q⟩ := h
  obtain rfl : u = Value.ref a := ry
  exact d_in hu I g rx fun s' I' => ⟨.bl o.isSome, H, I', rfl, q⟩
theorem op_dNotIn {X : Cx} (hu : X.A.units + 1 < cLine) : OpR X (compareOp .NotIn) rDNotIn := by
  intro pins s σ H x y v u Q I rx ry h
  obtain ⟨a, o, rfl, g, q⟩ := h
  obtain rfl : u = Value.ref a := ry
  exact d_notIn hu I g rx fun s' I' => ⟨.bl (!o.isSome), H, I', rfl, q⟩
abbrev rInU (K : Frg) : R2 := fun x y H Q => rIn K false x y H Q ∨ (rInD K x y H Q ∨ rDIn x y H Q)
abbrev rNotInU (K : Frg) : R2 := fun x y H Q => rIn K true x y H Q ∨ (rNotInD K x y H Q ∨ rDNotIn x y H Q)
def inD (x y : D) : Option Bool := match y with
  | .lst ds => if flatD x = true ∧ ds.all flatD = true then some (ds.any fun y => eqF y x) else if okD x = true ∧ okD (.lst ds) = true then some (ds.any fun y => eqD y x) else none
  | .tup ds => if flatD x = true ∧ ds.all flatD = true then some (ds.any fun y => eqF y x) else none
  | .dct ks => match x with
    | .int i => some (decide (i ∈ ks))
    | _ => none
  | _ => none
def dIn (x y : D) : Option D := (inD x y).map D.bl
def dNotIn (x y : D) : Option D := (inD x y).map fun b => D.bl (!b)
theorem any_py (d : D) : ∀ ds : List D, ((pyA ds).any fun z => PyData.eqv z d.py) = ds.any fun y => eqD y d
  | [] => rfl
  | e :: ds => by
    show (PyData.eqv e.py d.py || _) = _
    rw [any_py d ds]
    rfl
theorem inD_inv {P : List Addr} {x y : V} {d e : D} {b : Bool} {H : Hp} (hx : Rp K (Fz P H) x d) (hy : Rp K (Fz P H) y e) (h : inD d e = some b) :
    (∃ p xs, y = .ref p ∧ (SqL K H p xs ∨ SqT K H p xs) ∧ flatV x = true ∧ xs.all flatV = true ∧ inV x xs = b) ∨ (∃ d' ds', Dp K H x d' ∧ Dp K H y (.list ds') ∧ SeqAt.shaped d' = true ∧ SeqAt.shaped (.list ds') = true ∧ (ds'.any fun z => PyData.eqv z d') = b) ∨ (∃ a o, y = .ref a ∧ DGet H a x o ∧ o.isSome = b) := by
  unfold inD at h
  cases e with
  | dct ks =>
    cases d with
    | int i =>
      cases h
      cases hy with
      | dct h1 h2 =>
        cases hx.int_inv
        refine .inr (.inr ⟨_, _, rfl, DGet.k (k := Sum.inl i) (Fz_sub _ _ _ _ h1), h2 i⟩)
    | _ => cases h
  | lst ds =>
    dsimp only at h
    split at h
    · rename_i hf
      cases h
      obtain ⟨a, xs, rfl, ha, hxs⟩ := hy.lst_inv
      exact .inl ⟨a, xs, rfl, .inl (.inl (.inl (Fz_sub _ _ _ _ ha))), flat_v hx hf.1, allFlat_v hxs hf.2, inV_v hx hf.1 hxs hf.2⟩
    · split at h
      · rename_i hf
        cases h
        exact .inr (.inl ⟨d.py, pyA ds, hx.dp (Fz_sub P H) (SeqAt.canLay_of_shaped hf.1), hy.dp (Fz_sub P H) (SeqAt.canLay_of_shaped hf.2), hf.1, hf.2, any_py d ds⟩)
      · cases h
  | tup ds =>
    dsimp only at h
    split at h
    · rename_i hf
      cases h
      obtain ⟨a, xs, rfl, ha, hxs⟩ := hy.tup_inv
      exact .inl ⟨a, xs, rfl, .inr (.inl (.inl (Fz_sub _ _ _ _ ha))), flat_v hx hf.1, allFlat_v hxs hf.2, inV_v hx hf.1 hxs hf.2⟩
    · cases h
  | _ => cases h
theorem s_in : OpS K (rInU K) dIn := fun P x y d e z H Q pin hx hy hg q => by
  unfold dIn at hg
  cases hb : inD d e with
  | none => rw [hb] at hg; cases hg
  | some b =>
    rw [hb] at hg
    cases hg
    rcases inD_inv (K := K) hx hy hb with ⟨p, xs, h1, h2, h3, h4, h5⟩ | ⟨d', ds', h1, h2, h3, h4, h5⟩ | ⟨a, o, h1, h2, h3⟩
    · exact .inl ⟨p, xs, h1, h2, h3, h4, by rw [if_neg (by decide), h5]; exact q _ H (Same.refl H) (.bl _)⟩
    · exact .inr (.inl ⟨d', ds', h1, h2, h3, h4, by rw [h5]; exact q _ H (Same.refl H) (.bl _)⟩)
    · exact .inr (.inr ⟨a, o, h1, h2, by rw [h3]; exact q _ H (Same.refl H) (.bl _)⟩)
theorem s_notin : OpS K (rNotInU K) dNotIn := fun P x y d e z H Q pin hx hy hg q => by
  unfold dNotIn at hg
  cases hb : inD d e with
  | none => rw [hb] at hg; cases hg
  | some b =>
    rw [hb] at hg
    cases hg
    rcases inD_inv (K := K) hx hy hb with ⟨p, xs, h1, h2, h3, h4, h5⟩ | ⟨d', ds', h1, h2, h3, h4, h5⟩ | ⟨a, o, h1, h2, h3⟩
    · exact .inl ⟨p, xs, h1, h2, h3, h4, by rw [if_pos rfl, h5]; exact q _ H (Same.refl H) (.bl _)⟩
    · exact .inr (.inl ⟨d', ds', h1, h2, h3, h4, by rw [h5]; exact q _ H (Same.refl H) (.bl _)⟩)
    · exact .inr (.inr ⟨a, o, h1, h2, by rw [h3]; exact q _ H (Same.refl H) (.bl _)⟩)
/-! ### items and slices -/
def dIx : D → D → Option D
  | .lst ds, .int k => atI ds k
  | .tup ds, .int k => atI ds k
  | .scr ns, .int k => (atI ns k).map D.int
  | .str z, .int k => if z.length < big then (atI z.cps.toList k).map fun c => D.str ⟨#[c]⟩ else none
  | _, _ => none
theorem s_ix : OpS K (rIx K) dIx := fun P x y d e z H Q pin hx hy hg q => by
  unfold dIx at hg
  split at hg
  · obtain ⟨a, xs, rfl, ha, hxs⟩ := hx.lst_inv
    obtain ⟨v, hv, rv⟩ := atI_rp hxs hg
    exact .inl ⟨a, xs, _, v, rfl, hy.int_inv, .inl (.inl (Fz_sub _ _ _ _ ha)), hv, q _ H (Same.refl H) rv⟩
  · obtain ⟨a, xs, rfl, ha, hxs⟩ := hx.tup_inv
    obtain ⟨v, hv, rv⟩ := atI_rp hxs hg
    exact .inr (.inl ⟨a, xs, _, v, rfl, hy.int_inv, .inl (.inl (Fz_sub _ _ _ _ ha)), hv, q _ H (Same.refl H) rv⟩)
  · rename_i ns k
    obtain ⟨a, rfl, ha⟩ := hx.scr_inv
    have hg' : atI (ns.map D.int) k = some z := by
      unfold atI at hg ⊢
      rw [List.length_map]
      cases e1 : ixN ns.length k with
      | none => rw [e1] at hg; cases hg
      | some j =>
        rw [e1] at hg
        show (ns.map D.int)[j]? = some z
        rw [List.getElem?_map]
        exact hg
    obtain ⟨v, hv, rv⟩ := atI_rp (RpA.ints (K := K) (F := Fz P H) ns) hg'
    exact .inl ⟨a, _, _, v, rfl, hy.int_inv, (Fz_sub P H).seq ha, hv, q _ H (Same.refl H) rv⟩
  · rename_i w k
    split at hg
    · rename_i hb
      cases e1 : atI w.cps.toList k with
      | none => rw [e1] at hg; cases hg
      | some c =>
        rw [e1] at hg
        cases hg
        exact .inr (.inr ⟨w, k, c, hx.str_inv, hy.int_inv, big_le hb, e1, q _ H (Same.refl H) (.str _)⟩)
    · cases hg
  · cases hg
def cutL {α : Type} (xs : List α) (lo hi : Option Int) : List α := (xs.drop (HT.sIx xs.length 0 lo)).take (HT.sIx xs.length xs.length hi - HT.sIx xs.length 0 lo)
theorem cut_rp {F : Hp} {xs : List V} {ds : List D} (h : RpA K F xs ds) (lo hi : Option Int) : RpA K F (cutV xs lo hi) (cutL ds lo hi) := by
  unfold cutV cutL
  rw [h.length]
  exact (h.drop _).take _
def dSl (d : D) (lo hi : Option Int) : Option D := match d with
  | .lst ds => some (.lst (cutL ds lo hi))
  | .tup ds => some (.tup (cutL ds lo hi))
  | .str z => if z.length < big then some (.str (cutS z lo hi)) else none
  | _ => none
abbrev rSlU (K : Frg) : V → Option Int → Option Int → Hp → VK → Prop := fun x lo hi H Q => rSlL K x lo hi H Q ∨ (rSlA K x lo hi H Q ∨ rSlS x lo hi H Q)
theorem o_sl {X : Cx} : SlR X (rSlU X.K) := sl_list.or (sl_tupA.or sl_str)
theorem cut_all {α : Type} {xs : List α} {lo hi : Option Int} (h : HT.sIx xs.length 0 lo = 0 ∧ HT.sIx xs.length xs.length hi = xs.length) : cutL xs lo hi = xs := by
  unfold cutL
  rw [h.1, h.2, List.drop_zero, Nat.sub_zero, List.take_length]
theorem s_sl : SlS K (rSlU K) dSl := fun P x lo hi d z H Q pin hx hg q => by
  cases d with
  | lst ds =>
    cases hg
    obtain ⟨a, xs, rfl, ha, hxs⟩ := hx.lst_inv
    exact .inl ⟨a, xs, rfl, .inl (.inl (Fz_sub _ _ _ _ ha)), fun p hp => new_lst pin (cut_rp hxs lo hi) q hp⟩
  | tup ds =>
    cases hg
    obtain ⟨a, xs, rfl, ha, hxs⟩ := hx.tup_inv
    refine .inr (.inl ⟨a, xs, rfl, .inl (.inl (Fz_sub _ _ _ _ ha)), fun hw => ?_, fun _ p hp => new_tup pin (cut_rp hxs lo hi) q hp⟩)
    rw [hxs.length] at hw
    rw [cut_all hw] at q
    exact q _ H (Same.refl H) hx
  | str w =>
    have hg : (if w.length < big then some (D.str (cutS w lo hi)) else none) = some z := hg
    split at hg
    · cases hg
      exact .inr (.inr ⟨w, hx.str_inv, big_le ‹_›, q _ H (Same.refl H) (.str _)⟩)
    · cases hg
  | _ => cases hg
def sSlOw (i : Nat) (fl fh : SOg τ) : SEg τ := fun s n => match s[i]? with
  | some (.ow ds) => bindE (fl s n) fun lo n2 => bindE (fh s n2) fun hi n3 => .ok (.lst (cutL ds lo hi), n3)
  | _ => .no
theorem sim_slOw {tp : Tp τ} {Ec : EC} {tl th : TO} {fl fh : SOg τ} (i : Nat) (hl : SimO tp Ec tl fl) (hh : SimO tp Ec th fh) : SimE tp Ec (tSl (rSlU tp.K) (tVar i) tl th) (sSlOw i fl fh) := fun P s n σ H r Q hq => by
  unfold sSlOw at hq
  cases e : s[i]? with
  | none => rw [e] at hq; exact False.elim hq
  | some x =>
    rw [e] at hq
    cases x with
    | ow ds =>
      obtain ⟨p, xs, h1, h2, h3, h4⟩ := r.ow i ds e
      refine ⟨.ref p, h1, hl P s n σ H r _ (hq.bind fun lo n2 lo' H2 r2 e2 rl q2 => hh P s n2 σ H2 r2 _ (q2.bind fun hi n3 hi' H3 r3 e3 rh q3 => ?_))⟩
      cases (show lo' = lo from rl)
      cases (show hi' = hi from rh)
      obtain ⟨p', ys, g1, g2, g3, g4⟩ := r3.ow i ds e
      rw [h1] at g1
      cases g1
      exact .inl ⟨p, ys, rfl, .inl (.inl g3), fun q hq' => q3.pure r3 (same_new hq') (.lst (fz_new r3.pin hq') ((cut_rp g4 lo hi).grow (same_new hq')))⟩
    | un => exact False.elim hq
    | im _ => exact False.elim hq
    | gh _ => exact False.elim hq
    | tw => exact False.elim hq
/-! ### built-ins -/
def bLen : List D → Option D
  | [.lst ds] => some (.int ds.length)
  | [.tup ds] => some (.int ds.length)
  | [.scr ns] => some (.int ns.length)
  | [.str z] => if z.length < big then some (.int z.length) else none
  | _ => none
abbrev rLenU (K : Frg) : List V → Hp → VK → Prop := fun xs H Q => ∃ x n, xs = [x] ∧ LenV K x H n ∧ Q (.int n) H
theorem s_len : CbS K (rLenU K) bLen := fun P xs ds z H Q pin hx hg q => by
  unfold bLen at hg
  split at hg
  · cases hg
    cases hx with
    | cons h1 hx =>
      cases hx
      obtain ⟨a, ys, rfl, ha, hys⟩ := h1.lst_inv
      refine ⟨_, _, rfl, .inl ⟨ys, .inl (.inl (Fz_sub _ _ _ _ ha)), rfl⟩, ?_⟩
      rw [hys.length]
      exact q _ H (Same.refl H) (.int _)
  · cases hg
    cases hx with
    | cons h1 hx =>
      cases hx
      obtain ⟨a, ys, rfl, ha, hys⟩ := h1.tup_inv
      refine ⟨_, _, rfl, .inr ⟨ys, .inl (.inl (Fz_sub _ _ _ _ ha)), rfl⟩, ?_⟩
      rw [hys.length]
      exact q _ H (Same.refl H) (.int _)
  · cases hg
    cases hx with
    | cons h1 hx =>
      cases hx
      obtain ⟨a, rfl, ha⟩ := h1.scr_inv
      refine ⟨_, _, rfl, .inl ⟨_, (Fz_sub P H).seq ha, rfl⟩, ?_⟩
      rw [List.length_map]
      exact q _ H (Same.refl H) (.int _)
  · split at hg
    · cases hg
      cases hx with
      | cons h1 hx =>
        cases hx
        rw [h1.str_inv]
        exact ⟨_, _, rfl, ⟨big_le ‹_›, rfl⟩, q _ H (Same.refl H) (.int _)⟩
    · cases hg
  · cases hg
def intsD : List D → Option (List Int)
  | [] => some []
  | .int i :: r => (intsD r).map (i :: ·)
  | _ :: _ => none
theorem intsD_eq : ∀ {ds : List D} {ns : List Int}, intsD ds = some ns → ds = ns.map D.int
  | [], _, h => by cases h; rfl
  | .int i :: r, ns, h => by
    unfold intsD at h
    cases e : intsD r with
    | none => rw [e] at h; cases h
    | some ms =>
      rw [e] at h
      cases h
      rw [intsD_eq e]
      rfl
  | .non :: _, _, h => by cases h
  | .bl _ :: _, _, h => by cases h
  | .str _ :: _, _, h => by cases h
  | .lst _ :: _, _, h => by cases h
  | .tup _ :: _, _, h => by cases h
  | .scr _ :: _, _, h => by cases h
theorem intsD_map : ∀ ns : List Int, intsD (ns.map D.int) = some ns
  | [] => rfl
  | n :: ns => by
    show (intsD (ns.map D.int)).map (n :: ·) = _
    rw [intsD_map ns]
    rfl
def blsD : List D → Option (List Bool)
  | [] => some []
  | .bl i :: r => (blsD r).map (i :: ·)
  | _ :: _ => none
theorem blsD_eq : ∀ {ds : List D} {ns : List Bool}, blsD ds = some ns → ds = ns.map D.bl
  | [], _, h => by cases h; rfl
  | .bl i :: r, ns, h => by
    unfold blsD at h
    cases e : blsD r with
    | none => rw [e] at h; cases h
    | some ms =>
      rw [e] at h
      cases h
      rw [blsD_eq e]
      rfl
  | .non :: _, _, h => by cases h
  | .int _ :: _, _, h => by cases h
  | .str _ :: _, _, h => by cases h
  | .lst _ :: _, _, h => by cases h
  | .tup _ :: _, _, h => by cases h
  | .scr _ :: _, _, h => by cases h
theorem blsD_map : ∀ ns : List Bool, blsD (ns.map D.bl) = some ns
  | [] => rfl
  | n :: ns => by
    show (blsD (ns.map D.bl)).map (n :: ·) = _
    rw [blsD_map ns]
    rfl
/-- one list of ints -/
def intArg : List D → Option (List Int)
  | [.lst ds] => intsD ds
  | _ => none
theorem intArg_inv {P : List Addr} {xs : List V} {ds : List D} {ns : List Int} {H : Hp} (hx : RpA K (Fz P H) xs ds) (h : intArg ds = some ns) : ∃ a, xs = [.ref a] ∧ SqL K H a (ns.map V.int) := by
  unfold intArg at h
  split at h
  · cases hx with
    | cons h1 hx =>
      cases hx
      obtain ⟨a, ys, rfl, ha, hys⟩ := h1.lst_inv
      rw [intsD_eq h] at hys
      rw [hys.ints_inv] at ha
      exact ⟨a, rfl, .inl (.inl (Fz_sub _ _ _ _ ha))⟩
  · cases h
/-- one list or tuple of ints -/
def intArg2 : List D → Option (List Int)
  | [.lst ds] => intsD ds
  | [.tup ds] => intsD ds
  | _ => none
theorem intArg2_inv {P : List Addr} {xs : List V} {ds : List D} {ns : List Int} {H : Hp} (hx : RpA K (Fz P H) xs ds) (h : intArg2 ds = some ns) : ∃ a, xs = [.ref a] ∧ (SqL K H a (ns.map V.int) ∨ SqT K H a (ns.map V.int)) := by
  unfold intArg2 at h
  split at h
  · cases hx with
    | cons h1 hx =>
      cases hx
      obtain ⟨a, ys, rfl, ha, hys⟩ := h1.lst_inv
      rw [intsD_eq h] at hys
      rw [hys.ints_inv] at ha
      exact ⟨a, rfl, .inl (.inl (.inl (Fz_sub _ _ _ _ ha)))⟩
  · cases hx with
    | cons h1 hx =>
      cases hx
      obtain ⟨a, ys, rfl, ha, hys⟩ := h1.tup_inv
      rw [intsD_eq h] at hys
      rw [hys.ints_inv] at ha
      exact ⟨a, rfl, .inr (.inl (.inl (Fz_sub _ _ _ _ ha)))⟩
  · cases h
def bSum (ds : List D) : Option D := (intArg2 ds).map fun ns => .int ns.sum
abbrev rSumU (K : Frg) : List V → Hp → VK → Prop := fun xs H Q => rSum K xs H Q ∨ rSumT K xs H Q
theorem o_sum {X : Cx} (hc : X.calm = true) : CallR X (.builtin "sum") (rSumU X.K) := (cr_sum hc).or (cr_sumT hc)
theorem s_sum : CbS K (rSumU K) bSum := fun P xs ds z H Q pin hx hg q => by
  unfold bSum at hg
  cases e : intArg2 ds with
  | none => rw [e] at hg; cases hg
  | some ns =>
    rw [e] at hg
    cases hg
    obtain ⟨a, rfl, hs | hs⟩ := intArg2_inv (K := K) hx e
    · exact .inl ⟨a, ns, rfl, hs, q _ H (Same.refl H) (.int _)⟩
    · exact .inr ⟨a, ns, rfl, hs, q _ H (Same.refl H) (.int _)⟩
def maxI : List Int → Int
  | [] => 0
  | [a] => a
  | a :: r => let m := maxI r; if a < m then m else a
def minI : List Int → Int
  | [] => 0
  | [a] => a
  | a :: r => let m := minI r; if m < a then m else a
theorem maxI_spec : ∀ ns : List Int, ns ≠ [] → maxI ns ∈ ns ∧ ∀ y ∈ ns, y ≤ maxI ns
  | [], h => absurd rfl h
  | [a], _ => ⟨by simp [maxI], fun y hy => by simp at hy; simp [maxI, hy]⟩
  | a :: b :: r, _ => by
    obtain ⟨h1, h2⟩ := maxI_spec (b :: r) (by simp)
    have e : maxI (a :: b :: r) = if a < maxI (b :: r) then maxI (b :: r) else a := rfl
    rw [e]
    split
    · refine ⟨List.mem_cons_of_mem _ h1, fun y hy => ?_⟩
      rcases List.mem_cons.mp hy with rfl | hy
      · omega
      · exact h2 y hy
    · refine ⟨List.mem_cons_self, fun y hy => ?_⟩
      rcases List.mem_cons.mp hy with rfl | hy
      · omega
      · have := h2 y hy
        omega
theorem minI_spec : ∀ ns : List Int, ns ≠ [] → minI ns ∈ ns ∧ ∀ y ∈ ns, minI ns ≤ y
  | [], h => absurd rfl h
  | [a], _ => ⟨by simp [minI], fun y hy => by simp at hy; simp [minI, hy]⟩
  | a :: b :: r, _ => by
    obtain ⟨h1, h2⟩ := minI_spec (b :: r) (by simp)
    have e : minI (a :: b :: r) = if minI (b :: r) < a then minI (b :: r) else a := rfl
    rw [e]
    split
    · refine ⟨List.mem_cons_of_mem _ h1, fun y hy => ?_⟩
      rcases List.mem_cons.mp hy with rfl | hy
      · omega
      · exact h2 y hy
    · refine ⟨List.mem_cons_self, fun y hy => ?_⟩
      rcases List.mem_cons.mp hy with rfl | hy
      · omega
      · have := h2 y hy
        omega
def bMax (ds : List D) : Option D := match ds with
  | [.int a, .int b] => some (.int (if b > a then b else a))
  | _ => (intArg2 ds).bind fun ns => if ns.isEmpty then none else some (.int (maxI ns))
def bMin (ds : List D) : Option D := match ds with
  | [.int a, .int b] => some (.int (if b < a then b else a))
  | _ => (intArg2 ds).bind fun ns => if ns.isEmpty then none else some (.int (minI ns))
abbrev rMaxU (K : Frg) : List V → Hp → VK → Prop := fun xs H Q => (∃ i j, xs = [.int i, .int j] ∧ Q (.int (if j > i then j else i)) H) ∨ (rMax K xs H Q ∨ rMaxT K xs H Q)
abbrev rMinU (K : Frg) : List V → Hp → VK → Prop := fun xs H Q => (∃ i j, xs = [.int i, .int j] ∧ Q (.int (if j < i then j else i)) H) ∨ (rMin K xs H Q ∨ rMinT K xs H Q)
theorem o_max {X : Cx} (hc : X.calm = true) : CallR X (.builtin "max") (rMaxU X.K) := (call_max2 hc).or ((cr_max hc).or (cr_maxT hc))
theorem o_min {X : Cx} (hc : X.calm = true) : CallR X (.builtin "min") (rMinU X.K) := (call_min2 hc).or ((cr_min hc).or (cr_minT hc))
theorem s_max : CbS K (rMaxU K) bMax := fun P xs ds z H Q pin hx hg q => by
  unfold bMax at hg
  split at hg
  · cases hg
    cases hx with
    | cons h1 hx =>
      cases hx with
      | cons h2 hx =>
        cases hx
        rw [h1.int_inv, h2.int_inv]
        exact .inl ⟨_, _, rfl, q _ H (Same.refl H) (.int _)⟩
  · cases e : intArg2 ds with
    | none => rw [e] at hg; cases hg
    | some ns =>
      rw [e] at hg
      have hg : (if ns.isEmpty then none else some (D.int (maxI ns))) = some z := hg
      split at hg
      · cases hg
      · rename_i hne
        cases hg
        have hn : ns ≠ [] := fun z => by
          subst z
          exact hne rfl
        obtain ⟨a, rfl, hs⟩ := intArg2_inv (K := K) hx e
        obtain ⟨m1, m2⟩ := maxI_spec ns hn
        have hz : ∀ m, m ∈ ns → (∀ y, y ∈ ns → y ≤ m) → Q (.int m) H := fun m hm hle => by
          have : m = maxI ns := Int.le_antisymm (m2 m hm) (hle _ m1)
          rw [this]
          exact q _ H (Same.refl H) (.int _)
        rcases hs with hs | hs
        · exact .inr (.inl ⟨a, ns, rfl, hs, List.length_pos_iff.mpr hn, hz⟩)
        · exact .inr (.inr ⟨a, ns, rfl, hs, List.length_pos_iff.mpr hn, hz⟩)
theorem s_min : CbS K (rMinU K) bMin := fun P xs ds z H Q pin hx hg q => by
  unfold bMin at hg
  split at hg
  · cases hg
    cases hx with
    | cons h1 hx =>
      cases hx with
      | cons h2 hx =>
        cases hx
        rw [h1.int_inv, h2.int_inv]
        exact .inl ⟨_, _, rfl, q _ H (Same.refl H) (.int _)⟩
  · cases e : intArg2 ds with
    | none => rw [e] at hg; cases hg
    | some ns =>
      rw [e] at hg
      have hg : (if ns.isEmpty then none else some (D.int (minI ns))) = some z := hg
      split at hg
      · cases hg
      · rename_i hne
        cases hg
        have hn : ns ≠ [] := fun z => by
          subst z
          exact hne rfl
        obtain ⟨a, rfl, hs⟩ := intArg2_inv (K := K) hx e
        obtain ⟨m1, m2⟩ := minI_spec ns hn
        have hz : ∀ m, m ∈ ns → (∀ y, y ∈ ns → m ≤ y) → Q (.int m) H := fun m hm hle => by
          have : m = minI ns := Int.le_antisymm (hle _ m1) (m2 m hm)
          rw [this]
          exact q _ H (Same.refl H) (.int _)
        rcases hs with hs | hs
        · exact .inr (.inl ⟨a, ns, rfl, hs, List.length_pos_iff.mpr hn, hz⟩)
        · exact .inr (.inr ⟨a, ns, rfl, hs, List.length_pos_iff.mpr hn, hz⟩)
def blArg : List D → Option (List Bool)
  | [.lst ds] => blsD ds
  | _ => none
theorem blArg_inv {P : List Addr} {xs : List V} {ds : List D} {ns : List Bool} {H : Hp} (hx : RpA K (Fz P H) xs ds) (h : blArg ds = some ns) : ∃ a, xs = [.ref a] ∧ SqL K H a (ns.map V.bl) := by
  unfold blArg at h
  split at h
  · cases hx with
    | cons h1 hx =>
      cases hx
      obtain ⟨a, ys, rfl, ha, hys⟩ := h1.lst_inv
      rw [blsD_eq h] at hys
      rw [hys.bls_inv] at ha
      exact ⟨a, rfl, .inl (.inl (Fz_sub _ _ _ _ ha))⟩
  · cases h
def bAll (ds : List D) : Option D := (blArg ds).map fun bs => .bl (bs.all id)
def bAny (ds : List D) : Option D := (blArg ds).map fun bs => .bl (bs.any id)
theorem s_all : CbS K (rAll K) bAll := fun P xs ds z H Q pin hx hg q => by
  unfold bAll at hg
  cases e : blArg ds with
  | none => rw [e] at hg; cases hg
  | some bs =>
    rw [e] at hg
    cases hg
    obtain ⟨a, rfl, hs⟩ := blArg_inv (K := K) hx e
    exact ⟨a, bs, rfl, hs, q _ H (Same.refl H) (.bl _)⟩
theorem s_any : CbS K (rAny K) bAny := fun P xs ds z H Q pin hx hg q => by
  unfold bAny at hg
  cases e : blArg ds with
  | none => rw [e] at hg; cases hg
  | some bs =>
    rw [e] at hg
    cases hg
    obtain ⟨a, rfl, hs⟩ := blArg_inv (K := K) hx e
    exact ⟨a, bs, rfl, hs, q _ H (Same.refl H) (.bl _)⟩
/-- sorted, by insertion -/
def insI (a : Int) : List Int → List Int
  | [] => [a]
  | b :: r => if a ≤ b then a :: b :: r else b :: insI a r
def sortI : List Int → List Int
  | [] => []
  | a :: r => insI a (sortI r)
theorem insI_perm (a : Int) : ∀ l : List Int, (insI a l).Perm (a :: l)
  | [] => .refl _
  | b :: r => by
    unfold insI
    split
    · exact .refl _
    · exact ((insI_perm a r).cons b).trans (List.Perm.swap a b r)
theorem sortI_perm : ∀ l : List Int, (sortI l).Perm l
  | [] => .refl _
  | a :: r => (insI_perm a _).trans ((sortI_perm r).cons a)
theorem insI_sorted (a : Int) : ∀ l : List Int, l.Pairwise (· ≤ ·) → (insI a l).Pairwise (· ≤ ·)
  | [], _ => List.pairwise_singleton _ _
  | b :: r, h => by
    unfold insI
    split
    · rename_i hab
      refine List.Pairwise.cons (fun c hc => ?_) h
      rcases List.mem_cons.mp hc with rfl | hc
      · exact hab
      · exact Int.le_trans hab (List.rel_of_pairwise_cons h hc)
    · rename_i hab
      refine List.Pairwise.cons (fun c hc => ?_) (insI_sorted a r (List.Pairwise.of_cons h))
      have := (insI_perm a r).mem_iff.mp hc
      rcases List.mem_cons.mp this with rfl | hc
      · omega
      · exact List.rel_of_pairwise_cons h hc
theorem sortI_sorted : ∀ l : List Int, (sortI l).Pairwise (· ≤ ·)
  | [] => List.Pairwise.nil
  | a :: r => insI_sorted a _ (sortI_sorted r)
theorem sorted_unique : ∀ {l l' : List Int}, l.Perm l' → l.Pairwise (· ≤ ·) → l'.Pairwise (· ≤ ·) → l = l'
  | [], l', p, _, _ => (List.nil_perm.mp p).symm
  | a :: r, [], p, _, _ => absurd p.length_eq (by simp)
  | a :: r, b :: r', p, h, h' => by
    have hab : a = b := by
      have h1 : a ∈ b :: r' := p.mem_iff.mp List.mem_cons_self
      have h2 : b ∈ a :: r := p.mem_iff.mpr List.mem_cons_self
      rcases List.mem_cons.mp h1 with e | h1
      · exact e
      · rcases List.mem_cons.mp h2 with e | h2
        · exact e.symm
        · exact Int.le_antisymm (List.rel_of_pairwise_cons h h2) (List.rel_of_pairwise_cons h' h1)
    subst hab
    rw [sorted_unique (List.Perm.cons_inv p) (List.Pairwise.of_cons h) (List.Pairwise.of_cons h')]
def bSorted (ds : List D) : Option D := (intArg ds).map fun ns => .lst ((sortI ns).map D.int)
theorem s_sorted : CbS K (rSortedI K) bSorted := fun P xs ds z H Q pin hx hg q => by
  unfold bSorted at hg
  cases e : intArg ds with
  | none => rw [e] at hg; cases hg
  | some ns =>
    rw [e] at hg
    cases hg
    obtain ⟨a, rfl, hs⟩ := intArg_inv (K := K) hx e
    refine ⟨a, ns, rfl, hs, fun ns' p pm so np => ?_⟩
    rw [sorted_unique (pm.trans (sortI_perm ns).symm) so (sortI_sorted ns)]
    exact new_lst pin (RpA.ints _) q np
def bTuple : List D → Option D
  | [.lst ds] => some (.tup ds)
  | [.tup ds] => some (.tup ds)
  | _ => none
abbrev rTupleU (K : Frg) : List V → Hp → VK → Prop := fun xs H Q => ∃ p ys, xs = [.ref p] ∧ ((SqL K H p ys ∧ ∀ l, H l = none → Q (.ref l) (upd H l (.tup ys))) ∨ (SqT K H p ys ∧ Q (.ref p) H))
theorem s_tuple : CbS K (rTupleU K) bTuple := fun P xs ds z H Q pin hx hg q => by
  unfold bTuple at hg
  split at hg
  · cases hg
    cases hx with
    | cons h1 hx =>
      cases hx
      obtain ⟨a, ys, rfl, ha, hys⟩ := h1.lst_inv
      exact ⟨a, ys, rfl, .inl ⟨.inl (.inl (Fz_sub _ _ _ _ ha)), fun l hl => new_tup pin hys q hl⟩⟩
  · cases hg
    cases hx with
    | cons h1 hx =>
      cases hx
      obtain ⟨a, ys, rfl, ha, hys⟩ := h1.tup_inv
      exact ⟨a, ys, rfl, .inr ⟨.inl (.inl (Fz_sub _ _ _ _ ha)), q _ H (Same.refl H) h1⟩⟩
  · cases hg
def bList : List D → Option D
  | [.lst ds] => some (.lst ds)
  | [.tup ds] => some (.lst ds)
  | _ => none
abbrev rListU (K : Frg) : List V → Hp → VK → Prop := fun xs H Q => ∃ p ys, xs = [.ref p] ∧ (SqL K H p ys ∨ SqT K H p ys) ∧ ∀ l, H l = none → Q (.ref l) (upd H l (.lst ys))
theorem s_list : CbS K (rListU K) bList := fun P xs ds z H Q pin hx hg q => by
  unfold bList at hg
  split at hg
  · cases hg
    cases hx with
    | cons h1 hx =>
      cases hx
      obtain ⟨a, ys, rfl, ha, hys⟩ := h1.lst_inv
      exact ⟨a, ys, rfl, .inl (.inl (.inl (Fz_sub _ _ _ _ ha))), fun l hl => new_lst pin hys q hl⟩
  · cases hg
    cases hx with
    | cons h1 hx =>
      cases hx
      obtain ⟨a, ys, rfl, ha, hys⟩ := h1.tup_inv
      exact ⟨a, ys, rfl, .inr (.inl (.inl (Fz_sub _ _ _ _ ha))), fun l hl => new_lst pin hys q hl⟩
  · cases hg
/-- isinstance(x, T), T a written built-in class -/
def tyD : D → String
  | .non => "NoneType"
  | .bl _ => "bool"
  | .int _ => "int"
  | .str _ => "str"
  | .lst _ => "list"
  | .tup _ => "tuple"
  | .scr _ => "list"
  | .dct _ => "dict"
  | .dtb _ => "?"
  | .cli _ _ => "?"
theorem tyD_ok {F H : Hp} (e : Same F H) {v : V} {d : D} (h : Rp K F v d) (hq : tyD d ≠ "?") : TyX K H v (.type (tyD d)) := by
  cases h with
  | non => exact .base .non
  | bl b => exact .base (.bl b)
  | int i => exact .base (.int i)
  | str x => exact .base (.str x)
  | lst h r => exact .base (.lst (e _ _ h))
  | tup h r => exact .base (.tup (e _ _ h))
  | dct h r => exact .base (.dK (e _ _ h))
  | dtb h r => exact absurd rfl hq
  | cli _ _ _ _ _ => exact absurd rfl hq
  | scr h =>
    rcases h with (h | ⟨o, h⟩) | ⟨o, its, m, h1, h2, _⟩
    · exact .base (.lst (e _ _ h))
    · exact .base (.frz (e _ _ h))
    · exact .kList h1 h2
def isiT (T : String) (d : D) : Option Bool := match T, tyD d with
  | _, "?" => none
  | "int", "int" => some true
  | "int", "bool" => some true
  | "int", _ => some false
  | "bool", "bool" => some true
  | "bool", _ => some false
  | "tuple", "tuple" => some true
  | "tuple", _ => some false
  | "list", "list" => some true
  | "list", _ => some false
  | "str", "str" => some true
  | "str", _ => some false
  | _, _ => none
theorem isiT_q {T : String} {d : D} {b : Bool} (h : isiT T d = some b) : tyD d ≠ "?" := fun z => by
  unfold isiT at h
  rw [z] at h
  split at h <;> first | (cases h; done) | contradiction
theorem isiT_ok {T : String} {d : D} {b : Bool} (h : isiT T d = some b) : kitB (tyD d) T = some b := by
  unfold isiT at h
  split at h
  all_goals first
    | (cases h; done)
    | (cases d <;> simp only [tyD] at * <;> first | contradiction | (cases h; decide +kernel))
def sIsi (T : String) (fe : SEg τ) : SEg τ := fun s n => bindE (fe s n) fun d n1 => optE ((isiT T d).map D.bl) n1
theorem sim_isi {tp : Tp τ} {Ec : EC} {te : TE} {fe : SEg τ} (T : String) (he : SimE tp Ec te fe) : SimE tp Ec (tCB (rIsi tp.K) (tCons te (tCons (tC (.ty T)) tNil))) (sIsi T fe) := fun P s n σ H r Q hq =>
  he P s n σ H r _ (hq.bind fun d n1 v H1 r1 e1 rv q1 => by
    cases e : isiT T d with
    | none => rw [e] at q1; exact False.elim q1
    | some b =>
      rw [e] at q1
      exact ⟨v, .ty T, _, _, b, rfl, .ty T, tyD_ok (Fz_sub P H1) rv (isiT_q e), kit_ty (isiT_ok e), q1.same r1 (.bl b)⟩)
end
end G
end

section
set_option Elab.async false
set_option linter.all false
set_option backward.match.sparseCases false
set_option maxRecDepth 100000
namespace G
open L2 PySem PyProof.Rows PySem.Spec
/-- a set just made -/
abbrev set0 (w : World) : Obj := { cls := .type "set", dict := none, data := .set #[] 0 (.fresh 0 0 (!w.params.followText "set-order")) }
section
variable {P : Program} {w : World} {A : Around} {E : Value → Shared → Prop} {s : Shared}
/-- what set(..) leaves -/
def SetDone (w : World) (s : Shared) (ns : List Int) (s2 : Shared) : Prop := ∃ (h' : Heap) (tk c : Nat), s2 = { s with heap := h', toks := tk } ∧ SetR w h' s.heap.objs.size (fun j => decide (j ∈ ns)) c ∧ c ≤ ns.length ∧ ∀ b o, s.heap.get? b = some o → h'.get? b = some o
set_option maxHeartbeats 3200000 in
theorem call_set_list {l : Addr} {items : Array Value} (ns : List Int) {Q : Value → Shared → Prop} (hh : A.handled = none) (hl : s.heap.IsList l items) (hit : IntsAre items.toList ns) (hb : ns.length + 1 < scanBound)
    (h : ∀ s2, SetDone w s ns s2 → Q (.ref s.heap.objs.size) s2) : wpAny (model P w) A (call (.type "set") [.ref l]) Q E s := by
  have sz : items.size = ns.length := by
    have q := hit.length
    rwa [Array.length_toList] at q
  obtain ⟨c, tl, hmro⟩ := F.called_set.mro
  have m1 := F.called_set.made
  have m2 := F.called_set.sub
  have m3 := F.called_set.notType
  have m4 := F.called_set.canCreate
  have m5 := F.typeCall_set_1 (.ref l)
  refine wpAny_call (codeAny_of_tree ?_)
  show wpAny _ _ (callAny (.type "set") _) _ _ _
  refine wpAny_pure ⟨Code.quiet_builtin _ (by decide +kernel), codeAny_builtin F.entry_type_call ?_⟩
  rw [Around.under_plain (weight_type_call_type "set" [.ref l] []) rfl]
  repeat (any_goals (first | assumption | wp_step))
  refine codeAny_mono (code_set_led1 (.ref l) (E := E) (Q₁ := fun ob s1 => ob = .ref s.heap.objs.size ∧ s1 = { s with heap := s.heap.push (set0 w) }) ⟨rfl, rfl⟩) fun r s1 hr => ?_
  cases r with
  | error e => exact hr
  | ok fl =>
    cases fl with
    | ret ob =>
      obtain ⟨rfl, rfl⟩ := hr
      have g0 : (s.heap.push (set0 w)).get? s.heap.objs.size = some (set0 w) := Heap.get?_push_size _ rfl
      have ty : Shared.TypeIs { s with heap := s.heap.push (set0 w) } (.ref s.heap.objs.size) "set" := ⟨_, g0, rfl⟩
      have m6 := F.called_set.init.lookup
      have m7 := F.called_set.init.bind (.ref s.heap.objs.size)
      repeat (any_goals (first | assumption | wp_step))
      refine codeAny_mono (codeAny_call_builtin (R := wants (fun r s2 => r = .none ∧ SetDone w s ns s2) E) F.called_set.init.plain F.entry_set_init (check_set_init_1 ty ?_)) fun r2 s2 hr2 => ?_
      · obtain ⟨ol, hol, hcl, nl, hdl⟩ := hl
        obtain ⟨ocls, odict, odata, oslots⟩ := ol
        simp only at hcl hdl
        subst hcl hdl
        have gl : (s.heap.push (set0 w)).get? l = some { cls := .type "list", dict := odict, data := .seq items nl, slots := oslots } := Heap.get?_push_of_some _ hol
        have n1 := F.sub_list_set
        have n2 := F.sub_list_frozenset
        have n3 : (Value.type "list" == Value.type "dict") = false := by decide
        have hl1 : (s.heap.push (set0 w)).IsList l items := ⟨_, gl, rfl, nl, rfl⟩
        unfold Builtin.«set.__init__» noKeywords Builtin.Frozenset.updateFrom
        generalize hPI : pyIter = PI
        wp_walk
        subst hPI
        refine wpAny_pyIter_list hl1 (wpAny_bind (wpAny_runValue ?_))
        have lt : l < s.heap.objs.size := Heap.lt_size hol
        have h3 : A.in1.in1.in1.handled = none := by simp [hh]
        have ne1 : l ≠ (s.heap.push (set0 w)).objs.size := by
          rw [Heap.size_push]
          exact Nat.ne_of_lt (Nat.lt_succ_of_lt lt)
        have out : s.heap.objs.size ∉ [(s.heap.push (set0 w)).objs.size, l] := by
          rw [Heap.size_push]
          simp only [List.mem_cons, List.not_mem_nil, or_false, not_or]
          exact ⟨Nat.ne_of_lt (Nat.lt_succ_self _), Nat.ne_of_gt lt⟩
        have vals : ∀ (i : Nat) (v : Value), items[i]? = some v → ∃ k t, ns[i]? = some k ∧ v = .int k t := fun i v hv => by
          have hi : i < ns.length := by
            rw [← sz]
            exact (Array.getElem?_eq_some_iff.mp hv).1
          obtain ⟨t, e⟩ := IntsAre.int_at hit i v (by rw [Array.getElem?_toList]; exact hv)
          refine ⟨ns[i], t, List.getElem?_eq_getElem hi, ?_⟩
          rw [e, List.getD_eq_getElem?_getD, List.getElem?_eq_getElem hi] <;> rfl
        refine set_update_ints ((Walks.list h3 _ l ne1 items).toS) s.heap.objs.size out ns sz hb vals (items.size - 0) 0 _ (by omega) (Nat.zero_le _) ⟨⟨_, Heap.get?_push_size _ rfl, rfl, rfl⟩, hl1.push _⟩ ⟨0, Nat.le_refl 0, setR_new_at (Heap.get?_push_of_some _ g0)⟩ ?_
        intro s' c' hm hc' hS'
        obtain ⟨h', g2, d', tk', os'⟩ := s'
        have eg : g2 = s.gens := hm.gens
        have ed : d' = s.drawn := hm.drawn
        have eo : os' = s.os := hm.os
        subst eg ed eo
        refine wpAny_pure ?_
        show wpAny _ _ (ret Value.none) _ _ _
        rw [sz] at hc'
        refine wpAny_pure ⟨rfl, h', tk', c', rfl, hS', hc', fun b o e => ?_⟩
        have hb0 : b < s.heap.objs.size := Heap.lt_size e
        refine hm.heap b o ?_ (Heap.get?_push_of_some _ (Heap.get?_push_of_some _ e))
        simp only [List.mem_cons, List.not_mem_nil, or_false, not_or]
        refine ⟨Nat.ne_of_lt hb0, ?_⟩
        rw [Heap.size_push]
        exact Nat.ne_of_lt (Nat.lt_succ_of_lt hb0)
      · cases r2 with
        | error e => exact hr2
        | ok fl2 =>
          cases fl2 with
          | ret r =>
            obtain ⟨rfl, hd⟩ := hr2
            repeat (any_goals (first | assumption | wp_step))
            exact h _ hd
          | _ => exact hr2.elim
    | _ => exact hr.elim
end
end G
end

section
set_option Elab.async false
set_option linter.all false
set_option backward.match.sparseCases false
set_option maxRecDepth 100000
namespace G
open L2 PySem PyProof.Rows PySem.Spec
section
variable {P : Program} {w : World} {A : Around} {E : Value → Shared → Prop} {s : Shared} {a : Addr}
/-- sorted of a set of ints, however many -/
theorem sorted_setA {S : Int → Bool} {n : Nat} {Q : Value → Shared → Prop} (R : SetR w s.heap a S n) (hh : A.handled = none)
    (hQ : ∀ s' p (out : Array Value) (c : Nat) (ns : List Int), (∀ b o, s.heap.get? b = some o → s'.heap.get? b = some o) → s'.gens = s.gens → s'.os = s.os → s.heap.objs.size ≤ p →
      s'.heap.get? p = some (seqObj "list" out c) → IntsAre out.toList ns → ns.Pairwise (· < ·) → (∀ k, k ∈ ns ↔ S k = true) → ns.length < scanBound → Q (.ref p) s') :
    wpAny (model P w) A (call (.builtin "sorted") [.ref a]) Q E s := by
  obtain ⟨o, es, ep, t, ho, hex, hd, g, nd, hm, hb, hf, hn, hr, hl⟩ := R
  refine Calls.call_function_entry kind_sorted plain_sorted entry_sorted (args_sorted1 _) ?_
  unfold Builtin.«sorted»
  refine wpAny_bind (m := checkCount "sorted" 1 1 _) (wpAny_pure ?_)
  refine wpAny_bind (collect_set (A := A.in1) hh ⟨o, ho, hex.1, hd⟩ hf hb hr hl fun s1 vs k1 hz g1 o1 pm => ?_)
  have len : vs.length = es.size := by
    rw [pm.length_eq, List.length_map, Array.length_toList]
  have hints : IntsAre vs (vs.map Builtin.Re.reRawOf) := ints_of vs fun v hv => by
    obtain ⟨e, he, q⟩ := List.mem_map.mp (pm.mem_iff.mp hv)
    obtain ⟨k, tk, h1, _⟩ := g e he
    rw [← q]
    exact ⟨k, tk, h1⟩
  have keys : (vs.map Builtin.Re.reRawOf).Perm (es.toList.map keyOf) := by
    have q := pm.map Builtin.Re.reRawOf
    rwa [List.map_map] at q
  have fits : vs.length ≤ sizeLine := by
    rw [len, sizeLine_eq]
    exact Nat.le_trans (Nat.le_of_lt hb) (by decide)
  refine wpAny_bind (wpAny_newList ?_ fits)
  have at1 : (s1.heap.push (seqObj "list" vs.toArray 0)).get? s1.heap.objs.size = some (seqObj "list" vs.toArray 0) := Heap.get?_push_size _ rfl
  refine wpAny_bind (wpAny_holding (wpAny_call_entry slot_list_sort ⟨_, at1, rfl⟩ entry_list_sort (SrtO.list_sort_ord SrtO.swo_int at1 fits (fun h2 => SrtO.ints_sortable hints h2) fun out h1 h2 => ⟨_, rfl, ?_⟩) (args_list_sort _)))
  obtain ⟨c, hc⟩ := sortedHeap_at (vs := vs) (out := out.toArray) at1
  obtain ⟨i1, i2, i3⟩ := SrtO.ints_out hints h1 h2
  have pn := i2.trans keys
  refine wpAny_pure ⟨_, rfl, hQ _ s1.heap.objs.size out.toArray c _ (fun b u e => ?_) g1 o1 hz hc (by simpa using i1) (lt_of_le_nodup _ i3 (pn.nodup_iff.mpr nd)) (fun k => ?_) ?_⟩
  · have q := k1 b u e
    have lt := Heap.lt_size q
    show (sortedHeap (s1.heap.push (seqObj "list" vs.toArray 0)) s1.heap.objs.size vs out.toArray).get? b = some u
    rw [sortedHeap_old (Nat.ne_of_lt lt) (by rw [size_push']; exact Nat.lt_succ_of_lt lt)]
    exact Heap.get?_push_of_some _ q
  · rw [pn.mem_iff, ← hm k]
  · rw [pn.length_eq, List.length_map, Array.length_toList]
    exact hb
end
section
variable {X : Cx}
def rSetU (K : Frg) (w : World) : List V → Hp → VK → Prop := fun xs H Q => ∃ (l : Addr) (ns : List Int), xs = [.ref l] ∧ (SqL K H l (ns.map V.int) ∨ SqT K H l (ns.map V.int)) ∧ ns.length + 1 < scanBound ∧
  ∀ p c, H p = none → Q (.ref p) (upd H p (SetO w p (fun j => decide (j ∈ ns)) c))
theorem cr_setU (hc : X.calm = true) : CallR X (.type "set") (rSetU X.K X.w) := by
  intro pins s σ H xs us Q I r h
  obtain ⟨l, ns, rfl, hs, hb, q⟩ := h
  rw [Vals.ref1 r]
  have fin : ∀ s2, SetDone X.w s ns s2 → EP X pins σ Q (.ref s.heap.objs.size) s2 := fun s2 hd => by
    obtain ⟨h', tk, c, rfl, hS, hcl, hk⟩ := hd
    exact ⟨.ref _, upd H s.heap.objs.size (SetO X.w s.heap.objs.size (fun j => decide (j ∈ ns)) c), I.laid hk (Nat.le_refl _) (setO_new hS), rfl, q _ c (I.hok.fresh (Nat.le_refl _))⟩
  rcases hs with hs | hs
  · obtain ⟨its, rv, pl, hz⟩ := I.list hs
    exact call_set_list ns (I.ok.hd hc) pl.isList (by simpa using ints_of_vals rv) hb fin
  · obtain ⟨its, rv, pl, hz⟩ := I.tuple hs
    exact call_set_tupI ns (I.ok.hd hc) pl (by simpa using ints_of_vals rv) hb fun h' tk c hS hcl hk => fin _ ⟨h', tk, c, rfl, hS, hcl, hk⟩
def rSortSetU (w : World) : List V → Hp → VK → Prop := fun vs H Q => ∃ (a : Addr) (S : Int → Bool) (n : Nat), vs = [V.ref a] ∧ H a = some (SetO w a S n) ∧
  ∀ (ns : List Int) (p : Addr), ns.Pairwise (· < ·) → (∀ k : Int, k ∈ ns ↔ S k = true) → ns.length ≤ sizeLine → H p = none → Q (.ref p) (upd H p (.lst (ns.map V.int)))
theorem cr_sortSetU (hc : X.calm = true) : CallR X (.builtin "sorted") (rSortSetU X.w) := by
  intro pins s σ H vs us Q I r h
  obtain ⟨a, S, n, rfl, ha, q⟩ := h
  have R := setO_get I ha
  rw [Vals.ref1 r]
  refine sorted_setA R (I.ok.hd hc) fun s' p out c ns k g o hp hg hi hs hm hsc => ?_
  have hn : H p = none := I.hok.fresh hp
  have hlen : (ns.map V.int).length ≤ sizeLine := by
    rw [List.length_map, sizeLine_eq]
    exact Nat.le_trans (Nat.le_of_lt hsc) (by decide)
  have J : Inv X pins σ (upd H p (.lst (ns.map V.int))) { s with heap := s'.heap, gens := s'.gens, drawn := s'.drawn, toks := s'.toks } :=
    I.call (ch := []) (Un.laid k hp hn) (I.hok.laid k hp ⟨hlen, out.toList, c, vals_of_ints hi, hg⟩) (by rw [g]; exact I.bare) (fun _ z => nomatch z)
  have e : s' = { s with heap := s'.heap, gens := s'.gens, drawn := s'.drawn, toks := s'.toks } := by
    obtain ⟨_, _, _, _, _⟩ := s'
    obtain ⟨_, _, _, _, _⟩ := s
    cases o
    rfl
  rw [e]
  exact ⟨.ref p, _, J, rfl, q ns p hs hm (by rw [List.length_map] at hlen; exact hlen) hn⟩
end
/-- the members, ascending -/
def insU (a : Int) : List Int → List Int
  | [] => [a]
  | b :: r => if a < b then a :: b :: r else if a = b then b :: r else b :: insU a r
def usort : List Int → List Int
  | [] => []
  | a :: r => insU a (usort r)
theorem insU_mem (a k : Int) : ∀ l : List Int, k ∈ insU a l ↔ k = a ∨ k ∈ l
  | [] => by simp [insU]
  | b :: r => by
    unfold insU
    split
    · simp
    · split
      · rename_i e
        subst e
        simp
      · rw [List.mem_cons, insU_mem a k r, List.mem_cons]
        constructor
        · rintro (h | h | h)
          · exact .inr (.inl h)
          · exact .inl h
          · exact .inr (.inr h)
        · rintro (h | h | h)
          · exact .inr (.inl h)
          · exact .inl h
          · exact .inr (.inr h)
theorem usort_mem (k : Int) : ∀ l : List Int, k ∈ usort l ↔ k ∈ l
  | [] => by simp [usort]
  | a :: r => by
    show k ∈ insU a (usort r) ↔ _
    rw [insU_mem, usort_mem k r, List.mem_cons]
theorem insU_sorted (a : Int) : ∀ l : List Int, l.Pairwise (· < ·) → (insU a l).Pairwise (· < ·)
  | [], _ => List.pairwise_singleton _ _
  | b :: r, h => by
    unfold insU
    split
    · rename_i hab
      refine List.Pairwise.cons (fun c hc => ?_) h
      rcases List.mem_cons.mp hc with rfl | hc
      · exact hab
      · exact Int.lt_trans hab (List.rel_of_pairwise_cons h hc)
    · split
      · exact h
      · refine List.Pairwise.cons (fun c hc => ?_) (insU_sorted a r (List.Pairwise.of_cons h))
        rcases (insU_mem a c r).mp hc with rfl | hc
        · omega
        · exact List.rel_of_pairwise_cons h hc
theorem usort_sorted : ∀ l : List Int, (usort l).Pairwise (· < ·)
  | [] => List.Pairwise.nil
  | a :: r => insU_sorted a _ (usort_sorted r)
theorem usort_unique : ∀ {l l' : List Int}, l.Pairwise (· < ·) → l'.Pairwise (· < ·) → (∀ k, k ∈ l ↔ k ∈ l') → l = l'
  | [], [], _, _, _ => rfl
  | [], b :: r', _, _, h => absurd ((h b).mpr List.mem_cons_self) (by simp)
  | a :: r, [], _, _, h => absurd ((h a).mp List.mem_cons_self) (by simp)
  | a :: r, b :: r', h, h', hm => by
    have hab : a = b := by
      rcases List.mem_cons.mp ((hm a).mp List.mem_cons_self) with e | h1
      · exact e
      · rcases List.mem_cons.mp ((hm b).mpr List.mem_cons_self) with e | h2
        · exact e.symm
        · have q1 := List.rel_of_pairwise_cons h h2
          have q2 := List.rel_of_pairwise_cons h' h1
          omega
    subst hab
    rw [usort_unique (List.Pairwise.of_cons h) (List.Pairwise.of_cons h') fun k => ?_]
    constructor
    · intro hk
      have q1 := List.rel_of_pairwise_cons h hk
      rcases List.mem_cons.mp ((hm k).mp (List.mem_cons_of_mem _ hk)) with e | h2
      · omega
      · exact h2
    · intro hk
      have q1 := List.rel_of_pairwise_cons h' hk
      rcases List.mem_cons.mp ((hm k).mpr (List.mem_cons_of_mem _ hk)) with e | h2
      · omega
      · exact h2
def seqInts : D → Option (List Int)
  | .lst ds => intsD ds
  | .tup ds => intsD ds
  | _ => none
def sSortSet (fe : SEg τ) : SEg τ := fun s n => bindE (fe s n) fun d n1 => match seqInts d with
  | some ns => if ns.length < 4000 then .ok (.lst ((usort ns).map D.int), n1) else .no
  | none => .no
theorem sim_sortSet {tp : Tp τ} {Ec : EC} {te : TE} {fe : SEg τ} {w : World} (he : SimE tp Ec te fe) : SimE tp Ec (tCB (rSortSetU w) (tCons (tCB (rSetU tp.K w) (tCons te tNil)) tNil)) (sSortSet fe) := fun P s n σ H r Q hq =>
  he P s n σ H r _ (hq.bind fun d n1 v H1 r1 e1 rv q1 => by
    cases e : seqInts d with
    | none => rw [e] at q1; exact False.elim q1
    | some ns =>
      rw [e] at q1
      have q1 : Post (Rp tp.K) tp Ec P s σ H1 (if ns.length < 4000 then .ok (.lst ((usort ns).map D.int), n1) else .no) Q := q1
      split at q1
      · rename_i hb
        have hs : ∃ l, v = .ref l ∧ (SqL tp.K H1 l (ns.map V.int) ∨ SqT tp.K H1 l (ns.map V.int)) := by
          cases d with
          | lst ds =>
            obtain ⟨a, ys, rfl, ha, hys⟩ := rv.lst_inv
            rw [intsD_eq e] at hys
            rw [hys.ints_inv] at ha
            exact ⟨a, rfl, .inl (.inl (.inl (Fz_sub _ _ _ _ ha)))⟩
          | tup ds =>
            obtain ⟨a, ys, rfl, ha, hys⟩ := rv.tup_inv
            rw [intsD_eq e] at hys
            rw [hys.ints_inv] at ha
            exact ⟨a, rfl, .inr (.inl (.inl (Fz_sub _ _ _ _ ha)))⟩
          | _ => cases e
        obtain ⟨l, rfl, hs⟩ := hs
        refine ⟨l, ns, rfl, hs, by show ns.length + 1 < 4096; omega, fun p c hp => ⟨p, _, c, rfl, upd_same, fun ms p2 hso hme hl hp2 => ?_⟩⟩
        have em : ms = usort ns := usort_unique hso (usort_sorted ns) fun k => by
          rw [hme k, usort_mem k ns]
          simp
        rw [em]
        exact q1.pure r1 ((same_new hp).trans (same_new hp2)) (.lst (fz_new (fun a h => by
          by_cases e : a = p
          · subst e
            exact absurd hp (r1.pin a h).ne
          · rw [upd_ne e]
            exact r1.pin a h) hp2) (RpA.ints _))
      · exact False.elim q1)
/-! ### list(range(a, b, c)) -/
def stepD (a c : Int) (n : Nat) : List D := (List.range n).map fun i : Nat => D.int (a + i * c)
end G
end

section
set_option Elab.async false
set_option linter.all false
set_option backward.match.sparseCases false
set_option maxRecDepth 100000
namespace G
open L2 PySem PyProof.Rows PySem.Spec
/-- list(range(a, b, c)), a step above 0 -/
def stepN (a b c : Int) : Nat := if a < b then ((b - a - 1) / c + 1).toNat else 0
def stepV (a c : Int) (n : Nat) : List V := (List.range n).map fun i : Nat => V.int (a + i * c)
def smallR (a b c : Int) : Prop := -1000000 ≤ a ∧ a < 1000000 ∧ -1000000 ≤ b ∧ b < 1000000 ∧ 0 < c ∧ c < 1000000
instance (a b c : Int) : Decidable (smallR a b c) := by
  unfold smallR
  infer_instance
theorem stepN_size {a b c : Int} (h : smallR a b c) : Builtin.Range.rangeSize a b c = stepN a b c := by
  obtain ⟨h1, h2, h3, h4, h5, h6⟩ := h
  unfold Builtin.Range.rangeSize stepN
  rw [if_pos h5]
  by_cases hab : a < b
  · rw [if_pos hab, if_pos hab]
    have := Int.ediv_nonneg (a := b - a - 1) (b := c) (by omega) (by omega)
    omega
  · rw [if_neg hab, if_neg hab]
    rfl
theorem stepN_le {a b c : Int} (h : smallR a b c) : stepN a b c ≤ 2000000 := by
  obtain ⟨h1, h2, h3, h4, h5, h6⟩ := h
  unfold stepN
  split
  · have : (b - a - 1) / c ≤ b - a - 1 := Int.ediv_le_self _ (by omega)
    omega
  · omega
theorem fits_long {i : Int} (h1 : -100000000 ≤ i) (h2 : i < 100000000) : Builtin.Range.rangeFitsLong i = true := by
  unfold Builtin.Range.rangeFitsLong
  simp only [Bool.and_eq_true, decide_eq_true_eq]
  omega
theorem stepN_small {a b c : Int} (h : smallR a b c) : Builtin.Range.small a b c = true := by
  have e := stepN_size h
  have l := stepN_le h
  obtain ⟨h1, h2, h3, h4, h5, h6⟩ := h
  unfold Builtin.Range.small
  rw [e, fits_long (by omega) (by omega), fits_long (by omega) (by omega), fits_long (by omega) (by omega), fits_long (by omega) (by omega), if_pos h5, fits_long (by omega) (by omega)]
  simp
section
variable {X : Cx}
def tLstR3 (ta : TA) : TE := fun σ H Q => ta σ H fun vs H1 => ∃ a b c : Int, vs = [.int a, .int b, .int c] ∧ smallR a b c ∧ ∀ q, H1 q = none → Q (.ref q) (upd H1 q (.lst (stepV a c (stepN a b c))))
theorem stepV_vals {a c : Int} {n : Nat} {acc : Array Value} (h : ItemsOf (fun i v => ∃ t, v = .int (a + i * c) t) acc n) : Vals (stepV a c n) acc.toList := by
  have e : acc.toList.length = n := by
    rw [Array.length_toList]
    exact h.1
  unfold stepV
  rw [← e]
  refine vals_of_get acc.toList _ fun j u hj => ?_
  obtain ⟨t, rfl⟩ := h.2 j u (by rw [← hj, Array.getElem?_toList])
  exact ⟨t, rfl⟩
theorem pe_listR3 {a b c : Expr} {ta : TA} {p pos p2 pos2 : Pos} (hc : X.calm = true) (hg : Gl X "list") (hm : X.mg "list" = none) (hg2 : Gl X "range") (hm2 : X.mg "range" = none) (ha : PA X [a, b, c] ta)
    (hs : starEach [a, b, c] X.env = (false, eval a X.env) :: starEach [b, c] X.env := by rfl) (hpl : (backTo pos2 (starEach [b, c] X.env)).any (·.1) = false := by rfl)
    (na : starEach [.Call (.Name "range" p2) [a, b, c] [] pos2] X.env = (false, eval (.Call (.Name "range" p2) [a, b, c] [] pos2) X.env) :: starEach [] X.env := by rfl) :
    PE X (.Call (.Name "list" p) [.Call (.Name "range" p2) [a, b, c] [] pos2] [] pos) (tLstR3 ta) := by
  refine ⟨fun pins s σ H Q I h => ?_⟩
  refine Call_ (ld_blt I hg hm boot_list (callWith_type1 (args_cons ?_ na) na))
  refine Call_ (ld_blt I hg2 hm2 boot_range (callWith_type1 (thn (ha.run pos2 pins s σ H _ I h) fun us s1 ⟨vs, H1, I1, r1, q1⟩ => ?_) hs hpl))
  obtain ⟨i, j, k, e, sm, q⟩ := q1
  subst e
  cases r1 with
  | cons r rr =>
    cases rr with
    | cons r' rr =>
      cases rr with
      | cons r'' rr =>
        cases rr
        obtain ⟨t, rfl⟩ := r
        obtain ⟨t', rfl⟩ := r'
        obtain ⟨t'', rfl⟩ := r''
        refine call_range_3 (by have := sm.2.2.2.2.1; omega) ?_ (.inl (PyProof.noPylong_small (by have h1 := sm.2.2.2.2; omega)))
        refine args_nil ?_
        have I2 : Inv X pins σ H1 { s1 with heap := s1.heap.push { cls := .type "range", data := .fields #[.int i t, .int j t', .int k t''] } } := I1.kept (t' := s1.toks) fun b o e => Heap.get?_push_of_some _ e
        refine call_list_range (n := stepN i j k) (I2.ok.hd hc) (IsRange.new ..) (stepN_small sm) (stepN_size sm) (Nat.le_trans (stepN_le sm) (by decide)) fun h' tk acc c' hk e' hi => ?_
        refine ⟨.ref _, _, I2.laid hk (Nat.le_refl _) (o := .lst (stepV i k (stepN i j k))) ⟨?_, acc.toList, c', stepV_vals hi, ?_⟩, rfl, q _ (I2.hok.fresh (Nat.le_refl _))⟩
        · unfold stepV
          rw [List.length_map, List.length_range, sizeLine_eq]
          exact Nat.le_trans (stepN_le sm) (by decide)
        · rw [Array.toArray_toList]
          exact e'
end
theorem stepRp {K : Frg} {F : Hp} (a c : Int) : ∀ n : Nat, RpA K F (stepV a c n) (stepD a c n) := fun n => by
  unfold stepV stepD
  have h : ∀ l : List Nat, RpA K F (l.map fun i : Nat => V.int (a + i * c)) (l.map fun i : Nat => D.int (a + i * c)) := fun l => by
    induction l with
    | nil => exact .nil
    | cons i l ih => exact .cons (.int _) ih
  exact h _
theorem smallR_of {a b c : Int} (h : okI 1000000 a = true ∧ okI 1000000 b = true ∧ okI 1000000 c = true ∧ posI c = true) : smallR a b c := by
  have h1 := okI_spec h.1
  have h2 := okI_spec h.2.1
  have h3 := okI_spec h.2.2.1
  have h4 := posI_spec h.2.2.2
  exact ⟨by omega, by omega, by omega, by omega, by omega, by omega⟩
def nR3 (fr : SAg τ) : SEg τ := fun s n => bindE (fr s n) fun xs n1 => match plain xs with
  | some [.int a, .int b, .int c] => if okI 1000000 a = true ∧ okI 1000000 b = true ∧ okI 1000000 c = true ∧ posI c = true then .ok (.lst (stepD a c (stepN a b c)), n1) else .no
  | _ => .no
theorem sim_R3 {tp : Tp τ} {Ec : EC} {tr : TA} {fr : SAg τ} (hr : SimA tp Ec tr fr) : SimE tp Ec (tLstR3 tr) (nR3 fr) := fun P s n σ H r Q hq =>
  hr P s n σ H r _ (hq.bind fun xs n1 vs H1 r1 e1 rv q1 => by
    cases e : plain xs with
    | none => rw [e] at q1; exact False.elim q1
    | some ds =>
      rw [e] at q1
      have ra := plain_rp rv e
      split at q1
      · rename_i a b c heq
        cases heq
        cases ra with
        | cons h1 ra =>
          cases ra with
          | cons h2 ra =>
            cases ra with
            | cons h3 ra =>
              cases ra
              split at q1
              · rename_i hl
                rw [h1.int_inv, h2.int_inv, h3.int_inv]
                exact ⟨a, b, c, rfl, smallR_of hl, fun q hq' => q1.pure r1 (same_new hq') (.lst (fz_new r1.pin hq') (stepRp a c _))⟩
              · exact False.elim q1
      · exact False.elim q1)
/-! ### list(range(..)), tuple(range(..)) by ones -/
def rgD (a b : Int) : List D := rangeD a (b - a).toNat
theorem rgRp {K : Frg} {F : Hp} (a b : Int) : RpA K F (rgV a b) (rgD a b) := by
  unfold rgV rgD rangeD
  have h : ∀ l : List Nat, RpA K F (l.map fun i : Nat => V.int (a + i)) (l.map fun i : Nat => D.int (a + i)) := fun l => by
    induction l with
    | nil => exact .nil
    | cons i l ih => exact .cons (.int _) ih
  exact h _
/-- a raise of an own class -/
theorem sim_raise {tp : Tp τ} {mg : Str → Option Value} {E : XK} {C : Addr} (c : Nat) (hC : mg (errN c) = some (.ref C)) : SimS tp (EcOf mg E) (fun _ _ H => E (.ref C) none H) (sRaise c) := fun B P0 P s n σ H b K hq => hq H b.sm C hC
end G
end

section
set_option Elab.async false
set_option linter.all false
set_option backward.match.sparseCases false
set_option maxRecDepth 100000
namespace G
open L2 PySem PyProof.Rows PySem.Spec
abbrev FUEL : Nat := 1000000
theorem _root_.L2.Room.un65 {k : Nat} {A : Around} (r : Room k A) : A.units + 65 < cLine := by
  have := r.un
  omega
theorem o_in {X : Cx} (hu : X.A.units + 65 < cLine) : OpR X (compareOp .In) (rInU X.K) := op_in_seq.or ((op_inD hu).or (op_dIn (by omega)))
theorem o_notin {X : Cx} (hu : X.A.units + 65 < cLine) : OpR X (compareOp .NotIn) (rNotInU X.K) := op_notIn_seq.or ((op_notInD hu).or (op_dNotIn (by omega)))
section
variable {tp : Tp τ} {Ec : EC} {B : Hp} {P0 P : List Addr} {s : SD} {n n' : τ} {σ : L2.St} {H H' : Hp} {ta tb te : TE} {fa fb fe : SEg τ} {t u : TS} {f g : SSg τ} {K : Frg}
/-- the town is founded -/
def sTown (i : Nat) (g : SS) : SS := fun s _ => match g (s.set i .tw) 0 with
  | .rt d _ => .rt d 0
  | .ex c => .ex c
  | _ => .no
theorem BRel.town {n : Nat} {p : Addr} (b : BRel (tp0 Nat K) B P0 P s n σ H) (np : H p = none) (i : Nat) : BRel (tpT K p) B P0 (p :: P) (s.set i .tw) 0 (σ.set i (some (.ref p))) (upd H p (.lst [])) := by
  have r1 := b.rel.laid (xs := []) np
  have bp : B p = none := b.sm.free np
  have nep : ∀ (j : Nat) (es : List D), s[j]? = some (.ow es) → σ[j]? ≠ some (some (.ref p)) := fun j es h1 h2 => by
    obtain ⟨q', ys, g1, g2, g3, g4⟩ := b.rel.ow j es h1
    rw [h2] at g1
    cases g1
    rw [np] at g3
    cases g3
  have nt : ∀ j : Nat, s[j]? ≠ some .tw := fun j h => by
    obtain ⟨a, ha, _⟩ := b.rel.tw j h
    cases ha
  have sm : Same B (upd H p (.lst [])) := b.sm.trans (same_new np)
  have fin : ∀ (s' : SD) (σ' : L2.St), s'.length = σ'.length → (∀ (j : Nat) (x : SV), s'[j]? = some x → (x ≠ .tw → s[j]? = some x ∧ σ'[j]? = σ[j]?) ∧ (x = .tw → σ'[j]? = some (some (.ref p)))) → BRel (tpT K p) B P0 (p :: P) s' 0 σ' (upd H p (.lst [])) := fun s' σ' hl hx => by
    have im : ∀ (j : Nat) (x : SV), x ≠ .tw → s'[j]? = some x → s[j]? = some x ∧ σ'[j]? = σ[j]? := fun j x h1 h2 => (hx j x h2).1 h1
    refine ⟨⟨hl, fun j d h => ?_, fun j ds h => ?_, fun j k ds es q h1 h2 h3 h4 => ?_, fun j h => ⟨p, rfl, (hx j _ h).2 rfl⟩, fun j k h => ?_, fun a h => ?_, upd_same, r1.pin⟩, sm, fun a h => List.mem_cons_of_mem _ (b.sub a h), fun a h => ?_, fun j ds q h1 h2 => ?_, fun a h => ?_⟩
    · obtain ⟨q1, q2⟩ := im j _ (fun z => by cases z) h
      rw [q2]
      exact r1.im j d q1
    · obtain ⟨q1, q2⟩ := im j _ (fun z => by cases z) h
      rw [q2]
      exact r1.ow j ds q1
    · obtain ⟨q1, q2⟩ := im j _ (fun z => by cases z) h1
      obtain ⟨q3, q4⟩ := im k _ (fun z => by cases z) h2
      rw [q2] at h3
      rw [q4] at h4
      exact r1.inj j k ds es q q1 q3 h3 h4
    · obtain ⟨q1, q2⟩ := im j _ (fun z => by cases z) h
      obtain ⟨a, ha, _⟩ := b.rel.gs j k q1
      cases ha
    · cases (show a = p from h)
      refine ⟨List.mem_cons_self, fun j ds hj => ?_⟩
      obtain ⟨q1, q2⟩ := im j _ (fun z => by cases z) hj
      rw [q2]
      exact nep j ds q1
    · rcases List.mem_cons.mp h with rfl | h
      · exact .inr bp
      · exact b.new a h
    · obtain ⟨q1, q2⟩ := im j _ (fun z => by cases z) h1
      rw [q2] at h2
      exact b.own j ds q q1 h2
    · cases (show a = p from h)
      exact bp
  by_cases hi : i < s.length
  · have hi2 : i < σ.length := by rw [← b.rel.len]; exact hi
    refine fin _ _ (by rw [List.length_set, List.length_set]; exact b.rel.len) fun j x h => ?_
    rw [get_set s i .tw j hi] at h
    rw [get_set σ i _ j hi2]
    split at h
    · cases h
      exact ⟨fun z => absurd rfl z, fun _ => if_pos ‹_›⟩
    · exact ⟨fun _ => ⟨h, if_neg ‹_›⟩, fun z => by subst z; exact absurd h (nt j)⟩
  · rw [List.set_eq_of_length_le (by omega), List.set_eq_of_length_le (by rw [← b.rel.len]; omega)]
    exact fin s σ b.rel.len fun j x h => ⟨fun _ => ⟨h, rfl⟩, fun z => by subst z; exact absurd h (nt j)⟩
def nEnumU (fr : SAg τ) : SIg τ := fun s n => bindE (fr s n) fun xs n1 => match plain xs with
  | some [.lst ds] => .ok (enumD 0 ds, n1)
  | some [.tup ds] => .ok (enumD 0 ds, n1)
  | _ => .no
theorem sim_town {g : SS} (i : Nat) (h : ∀ a, SimS (tpT K a) Ec u g) : SimS (tp0 Nat K) Ec (tSeq (tAsg (tLst tNil) (gName i)) u) (sTown i g) := fun B P0 P s n σ H b L hq => by
  refine ⟨Nat.zero_le _, fun p np => ?_⟩
  refine h p B P0 (p :: P) _ 0 _ _ (b.town np i) L ?_
  unfold sTown at hq
  cases e : g (s.set i .tw) 0 with
  | rt d m => rw [e] at hq; exact fun v H1 sm _ pin rv => hq v H1 sm trivial pin rv
  | ex c => rw [e] at hq; exact hq
  | nx _ _ => rw [e] at hq; exact False.elim hq
  | bk _ _ => rw [e] at hq; exact False.elim hq
  | ct _ _ => rw [e] at hq; exact False.elim hq
  | no => rw [e] at hq; exact False.elim hq
def sAug (i : Nat) (fe : SEg τ) : SSg τ := fun s n => match s[i]? with
  | some (.im (.int a)) => bindS (fe s n) fun d n1 => match d with
    | .int b => .nx (s.set i (.im (.int (a + b)))) n1
    | _ => .no
  | _ => .no
theorem sim_aug (i : Nat) (he : SimE tp Ec te fe) : SimS tp Ec (tAug i te (ipI fun i j => i + j)) (sAug i fe) := fun B P0 P s n σ H b L hq => by
  unfold sAug at hq
  split at hq
  · rename_i a e
    obtain ⟨v, h1, h2⟩ := b.rel.im i _ e
    cases h2.int_inv
    refine ⟨.int a, h1, he P s n σ H b.rel _ (PostS.bind b hq fun d n1 v H1 b1 e1 r1 q1 => ?_)⟩
    cases d with
    | int c =>
      cases r1.int_inv
      exact ⟨a, c, rfl, rfl, q1 P _ H1 (b1.setIm (.int _))⟩
    | _ => exact False.elim q1
  · exact False.elim hq
/-- a, b = [..], e: the first a list of one's own -/
def sParN (i j : Nat) (fn : SNg τ) (fe : SEg τ) : SSg τ := fun s n => bindS (fn s n) fun ds n1 => bindS (fe s n1) fun d n2 => .nx ((s.set i (.ow ds)).set j (.im d)) n2
theorem sim_parN {fn : SNg τ} (i j : Nat) (hij : i ≠ j) (h1 : SimN tp Ec ta fn) (h2 : SimE tp Ec tb fb) : SimS tp Ec (tPar i j (tCons ta (tCons tb tNil))) (sParN i j fn fb) := fun B P0 P s n σ H b L hq =>
  h1 P s n σ H b.rel _ (PostS.bindN b hq fun ds n1 p xs H1 r1 e1 np hp ha q1 => by
    refine h2 (p :: P) s n1 σ H1 r1 _ ?_
    have bb : BRel tp B P0 (p :: P) s n1 σ H1 := ⟨r1, fun a o h => e1 a o (fun z => by rw [b.twn a z] at h; cases h) (b.sm a o h), fun a h => List.mem_cons_of_mem _ (b.sub a h), fun a h => by
      rcases List.mem_cons.mp h with rfl | h
      · exact .inr (b.sm.free np)
      · exact b.new a h, b.own, b.twn⟩
    refine PostS.bind bb q1 fun d n2 v H2 b2 e2 r2 q2 => ?_
    have ntp : ¬ tp.gh p := fun z => b.rel.gn p z np
    have hp2 : H2 p = some (.lst xs) := e2 p _ ntp hp
    have b3 := b.setOw (n' := n2) (H' := H2) b2.rel (e1.trans e2) np hp2 (ha.mono (r1.fz e2)) i
    exact ⟨_, _, rfl, q2 (p :: P) _ H2 (b3.setIm r2)⟩)
/-- a, b = e, [..]: the second a list of one's own -/
def sParM (i j : Nat) (fe : SEg τ) (fn : SNg τ) : SSg τ := fun s n => bindS (fe s n) fun d n1 => bindS (fn s n1) fun ds n2 => .nx ((s.set i (.im d)).set j (.ow ds)) n2
theorem sim_parM {fn : SNg τ} (i j : Nat) (hij : i ≠ j) (h1 : SimE tp Ec ta fa) (h2 : SimN tp Ec tb fn) : SimS tp Ec (tPar i j (tCons ta (tCons tb tNil))) (sParM i j fa fn) := fun B P0 P s n σ H b L hq =>
  h1 P s n σ H b.rel _ (PostS.bind b hq fun d n1 v H1 b1 e1 r1 q1 => h2 P s n1 σ H1 b1.rel _ (PostS.bindN b1 q1 fun ds n2 p xs H2 r2 e2 np hp ha q2 => by
    have fz : Same (Fz P H1) (Fz (p :: P) H2) := fun a o h => by
      have h1 : a ∉ P := fun z => by
        rw [Fz_in z] at h
        cases h
      rw [Fz_out h1] at h
      have h2 : a ≠ p := ne_of_none h np
      rw [Fz_out (by simp [h1, h2])]
      exact e2 a o (fun z => h1 (b1.rel.gp a z).1) h
    have b3 := (b1.setOw r2 e2 np hp ha j).setIm (i := i) (r1.mono fz)
    rw [List.set_comm _ _ (Ne.symm hij), List.set_comm _ _ (Ne.symm hij)] at b3
    exact ⟨_, _, rfl, q2 (p :: P) _ H2 b3⟩))
end
/-! ### the same, the mirror by its name -/
theorem fnP' {Pr : Program} {w : World} {K : Frg} {mg : Str → Option Value} {base : Heap} {x qual : Str} {st : Stmt} {f : Addr} {fd : FuncData} {N ps : List Str} {k : Nat} {sf : SS} {g : List D → R D} (F : Fun K x qual st f fd) (S : FnScope N ps (defScope st)) (hN : ps.length ≤ N.length) (hg : g = runP N.length ps.length sf)
    (hbody : ∀ (cdv : Value) (A : Around) (outer : List Env) (s : Shared) (H : Hp) (E : XK), Room k (A.deeper (envOfC qual (defScope st) s.heap.objs.size f cdv)) →
      ∃ t, PSs (cxOf (L2.CX Pr w) Pr w K mg base N qual (defScope st) f cdv A outer s H E) (defBody st) t ∧ SimS (tp0 Nat K) (EcOf mg E) t sf) : FnOk Pr w K mg base (L2.CX Pr w) (k + 1) f fd ps (spP K mg g) := by
  subst hg
  exact fnP F S hN hbody
theorem fnT' {Pr : Program} {w : World} {K : Frg} {mg : Str → Option Value} {base : Heap} {x qual : Str} {st : Stmt} {f : Addr} {fd : FuncData} {N ps : List Str} {k : Nat} {sf : SS} {g : List AV → Nat → R (D × Nat)} (F : Fun K x qual st f fd) (S : FnScope N ps (defScope st)) (hN : ps.length ≤ N.length) (hg : g = runT N.length ps.length sf)
    (hbody : ∀ (ta : Addr) (cdv : Value) (A : Around) (outer : List Env) (s : Shared) (H : Hp) (E : XK), Room k (A.deeper (envOfC qual (defScope st) s.heap.objs.size f cdv)) →
      ∃ t, PSs (cxOf (L2.CX Pr w) Pr w K mg base N qual (defScope st) f cdv A outer s H E) (defBody st) t ∧ SimS (tpT K ta) (EcOf mg E) t sf) : FnOk Pr w K mg base (L2.CX Pr w) (k + 1) f fd ps (spT K mg g) := by
  subst hg
  exact fnT F S hN hbody
/-! ### what an own error's class says -/
structure ErrOk (K : Frg) (mg : Str → Option Value) (n : Str) (C : Addr) : Prop where
  g : mg n = some (.ref C)
  x : PySem.W.excIn K C [.type "ValueError", .type "Exception", .type "BaseException", .type "object"] "ValueError.__new__" = true
  k : PySem.W.keepIn K (.ref C) = true
  b : PySem.W.subIn K (.ref C) (.type "BaseException") = some true
  t : PySem.W.typeIn K (.ref C) = some (.type "type")
/-- what a law promises -/
def spLaw (K : Frg) (g : List D → R D) : Sp := fun vs H Q _ => ∃ (a : Addr) (ns : List Int), vs = [.ref a] ∧ SqL K H a (ns.map V.int) ∧ g [.scr ns] = .ok (.bl true) ∧ ∀ H', Q (.bl true) H'
theorem spLaw_imp {K : Frg} {mg : Str → Option Value} {g : List D → R D} : ∀ vs H Q E, spLaw K g vs H Q E → spP K mg g vs H Q E := fun vs H Q E h => by
  obtain ⟨a, ns, rfl, hs, hg, q⟩ := h
  refine ⟨[], [.scr ns], (fun a h => by cases h), .cons (.scr ?_) .nil, ?_⟩
  · rw [Fz_nil]
    exact hs
  · rw [hg]
    intro v H' _ rv
    rw [rv.bl_inv]
    exact q H'
theorem noCX {P : Program} {w : World} (H : Hp) (s : Shared) (e : Value) (s' : Shared) (h : L2.CX P w [] H s (fun _ _ _ => False) e s') : False := by
  obtain ⟨_, _, _, _, _, _, _, _, _, _, _, _, z⟩ := h
  exact z.elim
/-! ### zip of two lists -/
def zipD : List D → List D → List D
  | a :: as, b :: bs => .tup [a, b] :: zipD as bs
  | _, _ => []
theorem zipD_get : ∀ (as bs : List D) (i : Nat) (d : D), (zipD as bs)[i]? = some d → ∃ a b, as[i]? = some a ∧ bs[i]? = some b ∧ d = .tup [a, b]
  | [], _, _, _, h => by simp [zipD] at h
  | _ :: _, [], _, _, h => by simp [zipD] at h
  | a :: as, b :: bs, 0, d, h => by
    simp [zipD] at h
    exact ⟨a, b, rfl, rfl, h.symm⟩
  | a :: as, b :: bs, i + 1, d, h => zipD_get as bs i d h
theorem zipD_len : ∀ (as bs : List D), (zipD as bs).length = min as.length bs.length
  | [], _ => by simp [zipD]
  | _ :: _, [] => by simp [zipD]
  | a :: as, b :: bs => by
    show (zipD as bs).length + 1 = _
    rw [zipD_len as bs, List.length_cons, List.length_cons]
    omega
def nZip (fr : SAg τ) : SIg τ := fun s n => bindE (fr s n) fun xs n1 => match plain xs with
  | some [.lst ds, .lst es] => .ok (zipD ds es, n1)
  | _ => .no
theorem simI_zip {tp : Tp τ} {Ec : EC} {tr : TA} {fr : SAg τ} (hr : SimA tp Ec tr fr) : SimI tp Ec (iZip tp.K tr) (nZip fr) := fun P s n σ H r Q hq =>
  hr P s n σ H r _ (hq.bind fun xs n1 vs H1 r1 e1 rv q1 => by
    cases e : plain xs with
    | none => rw [e] at q1; exact False.elim q1
    | some ds =>
      rw [e] at q1
      have ra := plain_rp rv e
      split at q1
      · rename_i as bs heq
        cases heq
        cases ra with
        | cons h1 ra =>
          cases ra with
          | cons h2 ra =>
            cases ra
            obtain ⟨a, ys, rfl, ha, hy⟩ := h1.lst_inv
            obtain ⟨b, zs, rfl, hb, hz⟩ := h2.lst_inv
            refine ⟨a, b, ys, zs, rfl, .inl (.inl (Fz_sub _ _ _ _ ha)), .inl (.inl (Fz_sub _ _ _ _ hb)), q1 _ H1 r1 (SameT.refl _ _) fun P2 H2 hs hp => ?_⟩
            have sa : SqL tp.K H2 a ys := .inl (.inl (Fz_sq hs ha))
            have sb : SqL tp.K H2 b zs := .inl (.inl (Fz_sq hs hb))
            refine ⟨fun i d hi => ?_, ⟨ys, zs, sa, sb, ?_⟩⟩
            · obtain ⟨x, y, hx, hy', ed⟩ := zipD_get as bs i d hi
              obtain ⟨v, hv, rv⟩ := hy.get hx
              obtain ⟨u, hu, ru⟩ := hz.get hy'
              refine ⟨⟨ys, zs, v, u, sa, sb, hv, hu⟩, fun w H3 hyl => ?_⟩
              obtain ⟨T, x', y', e4, nT, e5, f1, f2⟩ := hyl
              have q1 := f1 ys sa
              have q2 := f2 zs sb
              rw [hv] at q1
              rw [hu] at q2
              cases q1
              cases q2
              subst e4 e5 ed
              have nP : T ∉ P2 := fun z => hp T z nT
              exact ⟨same_new nT, .tup (by rw [Fz_out nP]; exact upd_same) (.cons ((rv.mono hs).grow (same_new nT)) (.cons ((ru.mono hs).grow (same_new nT)) .nil))⟩
            · rw [zipD_len, hy.length, hz.length]
              omega
      · exact False.elim q1)
end G
end

section
set_option Elab.async false
set_option linter.all false
set_option backward.match.sparseCases false
set_option maxRecDepth 100000
/-! enumerate of a tuple -/
namespace G
open L2 PySem PyProof.Rows PySem.Spec
set_option maxHeartbeats 1000000 in
theorem meets_enumT (l : Addr) (items : Array Value) (n : Nat) (dct : Option Addr) (sl : Array (Option Value)) :
    Meets (Builtin.«enumerate.__new__» ⟨[.type "enumerate", .ref l], []⟩) (fun _ R s => s.heap.get? l = some { cls := .type "tuple", dict := dct, data := .seq items n, slots := sl } ∧
      R (.ok (.ret (.ref (s.heap.push { cls := .type "tuple_iterator", data := .fields #[.ref l, .int 0 0] }).objs.size)))
        { s with heap := (s.heap.push { cls := .type "tuple_iterator", data := .fields #[.ref l, .int 0 0] }).push { cls := .type "enumerate", data := .fields #[.none, .bool false, .ref s.heap.objs.size, rawInt 0, .none, .none] } }) :=
  .of_wp fun prog w A R s h => by
    obtain ⟨hp, g, d, tk, os⟩ := s; obtain ⟨hl, h⟩ := h
    have hsub := sub_enumerate
    have hL : Heap.IsTuple (Shared.heap ⟨hp, g, d, tk, os⟩) l items := ⟨_, hl, rfl, n, rfl⟩
    wp_walk using wpAny_loadPart' hl
    refine wpAny_stack_any fun st => wpAny_pure ?_
    split
    · rename_i c _ _ _ _ _
      cases (c == Value.type "enumerate")
      · wp_walk using wpAny_loadPart' hl, wpAny_pyIter_tuple hL
        exact ⟨_, rfl, h⟩
      · wp_walk using wpAny_loadPart' hl, wpAny_pyIter_tuple hL
        exact ⟨_, rfl, h⟩
    · wp_walk using wpAny_loadPart' hl, wpAny_pyIter_tuple hL
      exact ⟨_, rfl, h⟩
section
variable {prog : Program} {w : World} {A : Around} {E : Value → Shared → Prop} {s : Shared}
theorem call_enumT {l : Addr} {items : Array Value} {Q : Value → Shared → Prop} (hL : s.heap.IsTuple l items)
    (h : ∀ h', IsEnum h' (s.heap.objs.size + 1) s.heap.objs.size 0 .none → h'.IsTupleIter s.heap.objs.size l 0 → h'.objs.size = s.heap.objs.size + 2 →
      (∀ b o, s.heap.get? b = some o → h'.get? b = some o) → Q (.ref (s.heap.objs.size + 1)) { s with heap := h' }) :
    wpAny (model prog w) A (call (.type "enumerate") [.ref l]) Q E s := by
  obtain ⟨⟨c, dct, dt, sl⟩, hl, hc, n, hd⟩ := hL
  replace hc : c = .type "tuple" := hc
  replace hd : dt = .seq items n := hd
  subst hc hd
  refine callType_new F.called_enumerate (by decide) (F.typeCall_enumerate_1 _) (F.newCall_enumerate_1 _) (fun obj => F.args_object_init_2 obj _) F.entry_enumerate_new (meets_enumT l items n dct sl) ⟨hl, ?_⟩
  have hz : (s.heap.push { cls := .type "tuple_iterator", data := .fields #[.ref l, .int 0 0] }).objs.size = s.heap.objs.size + 1 := Heap.size_push ..
  show _ ∧ _
  rw [hz]
  have he : IsEnum ((s.heap.push { cls := .type "tuple_iterator", data := .fields #[.ref l, .int 0 0] }).push { cls := .type "enumerate", data := .fields #[.none, .bool false, .ref s.heap.objs.size, rawInt 0, .none, .none] }) (s.heap.objs.size + 1) s.heap.objs.size 0 .none := by
    have := Heap.get?_push_size (s.heap.push { cls := .type "tuple_iterator", data := .fields #[.ref l, .int 0 0] }) (o := { cls := .type "enumerate", data := .fields #[.none, .bool false, .ref s.heap.objs.size, rawInt 0, .none, .none] }) rfl
    rw [hz] at this
    exact this
  exact ⟨⟨_, he, rfl⟩, h _ he ⟨_, Heap.get?_push_of_some _ (Heap.get?_push_size _ rfl), rfl, rfl⟩ (by rw [Heap.size_push, hz]) fun b o x => Heap.get?_push_of_some _ (Heap.get?_push_of_some _ x)⟩
end
def IteT (K : Frg) (a : Addr) (n : Nat) : It :=
  ⟨fun i H => ∃ (xs : List V) (x : V), SqT K H a xs ∧ xs.length = n ∧ xs[i]? = some x, fun i H v H' => ∃ T x, v = .ref T ∧ H T = none ∧ H' = upd H T (.tup [.int (i : Nat), x]) ∧ ∀ xs, SqT K H a xs → xs[i]? = some x, fun i H => n ≤ i ∧ ∃ xs : List V, SqT K H a xs ∧ xs.length = n⟩
theorem turn_enumT {P : Program} {w : World} {K : Frg} {elts : List Expr} {kk : Nat} {tpos : Pos} (a e it : Addr) (n : Nat) :
    Turn P w K (.Tuple elts kk tpos) (IteT K a n) [e, it] e (fun i h => i ≤ n ∧ (∃ old, IsEnum h e it ((i : Nat) : Int) old) ∧ h.IsTupleIter it a i ∧ e ≠ it ∧ e ≠ a ∧ a ≠ it) where
  mem := by simp
  obj := fun i h st b hb => by
    obtain ⟨_, ⟨old, he⟩, ⟨o, ho, hc, hd⟩, _⟩ := st
    have e' : b = e ∨ b = it := by simpa using hb
    rcases e' with z | z
    · rw [z]; exact ⟨_, he, fun v q => nomatch q⟩
    · rw [z]; exact ⟨o, ho, fun v q => by rw [hd] at q; cases q⟩
  keep := fun i h h' st k => let ⟨hi, ⟨old, he⟩, hit, hne⟩ := st; ⟨hi, ⟨old, k e (by simp) _ he⟩, hit.at fun o q => k it (by simp) o q, hne⟩
  item := by
    intro X hP hw hK hc i pins s σ H E I hf st hg
    subst hP hw hK
    obtain ⟨_, ⟨old, he⟩, hit, hne, hea, hai⟩ := st
    obtain ⟨xs, x, hq, hn, hx⟩ := hg
    obtain ⟨its, rv, p, hz⟩ := I.tuple hq
    obtain ⟨u, hu, ru⟩ := rv.get hx
    have hel : e < s.heap.objs.size := Heap.lt_size he
    have hil : it < s.heap.objs.size := by obtain ⟨_, q, _⟩ := hit; exact Heap.lt_size q
    have hin : i < its.toArray.size := by
      rw [List.size_toArray, ← rv.length]
      exact (List.getElem?_eq_some_iff.mp hx).1
    refine wpAny_pyNext_enum_itemD (Draws.tuple (A := X.A.in1) (I.ok.hd hc) it a hai its.toArray) he ⟨hit, p⟩ hin hne (by simp; exact ⟨hne, hea⟩) fun y h' tk hy ho hit' hT hsz hk => ?_
    have ey : y = u := by
      have h1 : its[i]? = some y := by simpa using hy
      rw [hu] at h1
      exact (Option.some.inj h1).symm
    subst ey
    refine ⟨_, rfl, wpAny_letOwnedTupleGo_enum (s := { s with heap := h', toks := tk + 1 }) ho fun h'' he' sb => ?_⟩
    have hT2 : h''.get? s.heap.objs.size = some { cls := .type "tuple", data := .seq #[.int i tk, y] } := (sb.2 _ (Nat.ne_of_gt hel)).trans hT
    have new : ObjOk X.prog X.w (upd H s.heap.objs.size (.tup [.int (i : Nat), x])) h'' s.heap.objs.size (.tup [.int (i : Nat), x]) :=
      ⟨by show 2 ≤ sizeLine; decide, [.int i tk, y], .cons ⟨_, rfl⟩ (.cons ru .nil), ⟨_, hT2, rfl, _, rfl⟩⟩
    have I1 : Inv X pins σ (upd H s.heap.objs.size (.tup [.int (i : Nat), x])) { s with heap := h'', toks := tk + 1 } :=
      I.turnedNew (ch := [e, it]) (fun b ob hb q => (sb.2 b (fun z => hb (by simp [z]))).trans (hk b ob (fun z => hb (by simp [z])) (fun z => hb (by simp [z])) q)) hf (Nat.le_refl _) new
    have hil2 : i + 1 ≤ n := by
      have := (List.getElem?_eq_some_iff.mp hx).1
      omega
    refine ⟨.ref s.heap.objs.size, _, I1, rfl, ⟨_, x, rfl, I.hok.fresh (Nat.le_refl _), rfl, fun ys hy => by rw [I.tuple_inj hy hq]; exact hx⟩, ⟨hil2, ⟨y, ?_⟩, hit'.1.at fun o q => (sb.2 it (Ne.symm hne)).trans q, hne, hea, hai⟩, fun b hb => ?_⟩
    · have e1 : ((i + 1 : Nat) : Int) = (i : Int) + 1 := by omega
      rw [e1]; exact he'
    · have hb' : b < s.heap.objs.size := by
        have e' : b = e ∨ b = it := by simpa using hb
        rcases e' with z | z
        · rw [z]; exact hel
        · rw [z]; exact hil
      rw [upd_ne (Nat.ne_of_lt hb')]
      exact (hf b hb).1
  done := by
    intro X hP hw hK hc i pins s σ H E I hf st hg
    subst hP hw hK
    obtain ⟨hile, ⟨old, he⟩, hit, hne, hea, hai⟩ := st
    obtain ⟨hni, xs, hq, hx⟩ := hg
    obtain ⟨its, rv, p, hz⟩ := I.tuple hq
    obtain ⟨f0, f1, f2, f3, f4, f5⟩ := hf it (by simp)
    have hl := rv.length
    have ei : i = its.toArray.size := by
      rw [List.size_toArray]
      omega
    refine wpAny_pyNext_enum_endD (Draws.tuple (A := X.A.in1) (I.ok.hd hc) it a hai its.toArray) he ⟨by rw [← ei]; exact hit, p⟩ fun h' eb => ⟨rfl, I.turned (t' := s.toks) (fun b o hb q => eb b o hb q) f0 f1 f3 f4 f5⟩
  self := fun A i s Q E st h => let ⟨_, ⟨_, he⟩, _⟩ := st; wpAny_pyIter_enum he h
def iEnumU (K : Frg) (ta : TA) : TI := fun σ H R => ta σ H fun vs H1 => ∃ a, vs = [.ref a] ∧ ((∃ xs, SqL K H1 a xs ∧ R (Ite K a) H1) ∨ ∃ xs, SqT K H1 a xs ∧ R (IteT K a xs.length) H1)
theorem pi_enumU {X : Cx} {e : Expr} {ta : TA} {p pos tpos : Pos} {elts : List Expr} {kk : Nat} (hg : Gl X "enumerate") (hm : X.mg "enumerate" = none) (ha : PA X [e] ta) (hs : starEach [e] X.env = [(false, eval e X.env)] := by rfl) :
    PI X (.Tuple elts kk tpos) (.Call (.Name "enumerate" p) [e] [] pos) (iEnumU X.K ta) := by
  refine ⟨fun pins s σ H R I h => ?_⟩
  refine Call_ (ld_blt I hg hm boot_enumerate (PyProof.Rows.callWith_type1 (thn (ha.run pos pins s σ H _ I h) fun us s1 ⟨vs, H1, I1, r1, q1⟩ => ?_) hs rfl))
  obtain ⟨a, ex, q⟩ := q1
  subst ex
  cases r1 with
  | cons r rr =>
    cases rr
    cases r
    have fin : ∀ b ∈ [s1.heap.objs.size + 1, s1.heap.objs.size], FpOk X pins H1 b := fun b hb => by
      have e' : b = s1.heap.objs.size + 1 ∨ b = s1.heap.objs.size := by simpa using hb
      have hle : s1.heap.objs.size ≤ b := by
        rcases e' with z | z
        · rw [z]; exact Nat.le_add_right _ _
        · rw [z]; exact Nat.le_refl _
      exact I1.fpOk hle (I1.hok.fresh hle)
    rcases q with ⟨xs, hq, q⟩ | ⟨xs, hq, q⟩
    · obtain ⟨its, rv, p', hz⟩ := I1.list hq
      refine call_enumerate_list p'.isList fun h' he hit hsz hk => wpAny_pyIter_enum he ?_
      have I2 : Inv X pins σ H1 { s1 with heap := h' } := I1.kept (t' := s1.toks) hk
      exact ⟨s1.heap.objs.size + 1, [s1.heap.objs.size + 1, s1.heap.objs.size], _, _, H1, rfl, I2, turn_enum a (s1.heap.objs.size + 1) s1.heap.objs.size, ⟨⟨.none, he⟩, hit, Nat.succ_ne_self _⟩, fin, q⟩
    · obtain ⟨its, rv, p', hz⟩ := I1.tuple hq
      have hlt : a < s1.heap.objs.size := by
        obtain ⟨_, q1, _⟩ := p'
        exact Heap.lt_size q1
      refine call_enumT p' fun h' he hit hsz hk => wpAny_pyIter_enum he ?_
      have I2 : Inv X pins σ H1 { s1 with heap := h' } := I1.kept (t' := s1.toks) hk
      exact ⟨s1.heap.objs.size + 1, [s1.heap.objs.size + 1, s1.heap.objs.size], _, _, H1, rfl, I2, turn_enumT a (s1.heap.objs.size + 1) s1.heap.objs.size xs.length, ⟨Nat.zero_le _, ⟨.none, he⟩, hit, Nat.succ_ne_self _, (Nat.ne_of_lt (Nat.lt_succ_of_lt hlt)).symm, Nat.ne_of_lt hlt⟩, fin, q⟩
section
variable {tp : Tp τ} {Ec : EC}
theorem simI_enumU {tr : TA} {fr : SAg τ} (hr : SimA tp Ec tr fr) : SimI tp Ec (iEnumU tp.K tr) (nEnumU fr) := fun P s n σ H r Q hq =>
  hr P s n σ H r _ (hq.bind fun xs n1 vs H1 r1 e1 rv q1 => by
    cases e : plain xs with
    | none => rw [e] at q1; exact False.elim q1
    | some ds =>
      rw [e] at q1
      have ra := plain_rp rv e
      split at q1
      · rename_i es heq
        cases heq
        cases ra with
        | cons h1 ra =>
          cases ra
          obtain ⟨a, ys, rfl, ha, hx⟩ := h1.lst_inv
          refine ⟨a, rfl, .inl ⟨ys, .inl (.inl (Fz_sub _ _ _ _ ha)), q1 _ H1 r1 (SameT.refl _ _) fun P2 H2 hs hp => ⟨fun i d hi => ?_, ⟨ys, .inl (.inl (Fz_sq hs ha)), by rw [enumD_len, hx.length]; exact Nat.le_refl _⟩⟩⟩⟩
          obtain ⟨d', hd', ed⟩ := enumD_get es 0 i d hi
          obtain ⟨w, hw, rw'⟩ := hx.get hd'
          have sq : SqL tp.K H2 a ys := .inl (.inl (Fz_sq hs ha))
          refine ⟨⟨ys, w, sq, hw⟩, fun x H3 hy => ?_⟩
          obtain ⟨T, x', e4, nT, e5, y⟩ := hy
          have := y ys sq
          rw [hw] at this
          cases this
          subst e4 e5 ed
          have nP : T ∉ P2 := fun z => hp T z nT
          refine ⟨same_new nT, .tup (by rw [Fz_out nP]; exact upd_same) (.cons ?_ (.cons ((rw'.mono hs).mono (Fz_mono (same_new nT))) .nil))⟩
          rw [Nat.zero_add]
          exact .int _
      · rename_i es heq
        cases heq
        cases ra with
        | cons h1 ra =>
          cases ra
          obtain ⟨a, ys, rfl, ha, hx⟩ := h1.tup_inv
          refine ⟨a, rfl, .inr ⟨ys, .inl (.inl (Fz_sub _ _ _ _ ha)), q1 _ H1 r1 (SameT.refl _ _) fun P2 H2 hs hp => ⟨fun i d hi => ?_, ⟨by rw [enumD_len, hx.length]; exact Nat.le_refl _, ys, .inl (.inl (Fz_sq hs ha)), rfl⟩⟩⟩⟩
          obtain ⟨d', hd', ed⟩ := enumD_get es 0 i d hi
          obtain ⟨w, hw, rw'⟩ := hx.get hd'
          have sq : SqT tp.K H2 a ys := .inl (.inl (Fz_sq hs ha))
          refine ⟨⟨ys, w, sq, rfl, hw⟩, fun x H3 hy => ?_⟩
          obtain ⟨T, x', e4, nT, e5, y⟩ := hy
          have := y ys sq
          rw [hw] at this
          cases this
          subst e4 e5 ed
          have nP : T ∉ P2 := fun z => hp T z nT
          refine ⟨same_new nT, .tup (by rw [Fz_out nP]; exact upd_same) (.cons ?_ (.cons ((rw'.mono hs).mono (Fz_mono (same_new nT))) .nil))⟩
          rw [Nat.zero_add]
          exact .int _
      · exact False.elim q1)
end
end G
end

section
set_option Elab.async false
set_option linter.all false
set_option backward.match.sparseCases false
set_option maxRecDepth 100000
/-! a, b = x, y where a name is shared with a comprehension: by a tuple -/
namespace G
open L2 PySem PyProof.Rows PySem.Spec
section
variable {tp : Tp τ} {Ec : EC} {B : Hp} {P0 P : List Addr} {s : SD} {n n' : τ} {σ : L2.St} {H H' : Hp} {ta tb te : TE} {fa fb fe : SEg τ} {K : Frg}
theorem BRel.upd (b : BRel tp B P0 P s n σ H) {p : Addr} {o : HO} (h : H p = none) : BRel tp B P0 P s n σ (upd H p o) := b.grow (b.rel.grow (same_new h)) fun a o' _ e => same_new h a o' e
abbrev tPar2 (K : Frg) (i j : Nat) (tr : TA) : TS := tAsg (tTup tr) (gTup K 2 (gCons (gName i) (gCons (gName j) gNil)))
theorem par2_of {i j : Nat} {v w : V} {D : Ends} (h : ∀ p, H p = none → D.nx ((σ.set i (some v)).set j (some w)) (L2.upd H p (.tup [v, w]))) : [v, w].length ≤ sizeLine ∧ ∀ p, H p = none → gTup K 2 (gCons (gName i) (gCons (gName j) gNil)) (.ref p) σ (L2.upd H p (.tup [v, w])) D.nx :=
  ⟨by show 2 ≤ sizeLine; decide, fun p hp => ⟨p, [v, w], rfl, .inl (.inl upd_same), rfl, v, [w], rfl, w, [], rfl, rfl, h p hp⟩⟩
theorem sim_par2 {tr : TA} {fr : SAg τ} (i j : Nat) (hr : SimA tp Ec tr fr) : SimS tp Ec (tPar2 K i j tr) (sPar i j fr) := fun B P0 P s n σ H b L hq =>
  hr P s n σ H b.rel _ (PostS.bind b hq fun xs n1 vs H1 b1 e1 r1 q1 => by
    cases e : plain xs with
    | none =>
      rw [e] at q1
      exact False.elim q1
    | some ds =>
      rw [e] at q1
      have ra := plain_rp r1 e
      match ds, ra, q1 with
      | [x, y], .cons h1 (.cons h2 .nil), q1 => exact par2_of fun p hp => q1 P _ _ (((b1.setIm h1).setIm h2).upd hp)
      | [], _, q1 => exact False.elim q1
      | [_], _, q1 => exact False.elim q1
      | _ :: _ :: _ :: _, _, q1 => exact False.elim q1)
theorem sim_parN2 {fn : SNg τ} (i j : Nat) (hij : i ≠ j) (h1 : SimN tp Ec ta fn) (h2 : SimE tp Ec tb fb) : SimS tp Ec (tPar2 K i j (tCons ta (tCons tb tNil))) (sParN i j fn fb) := fun B P0 P s n σ H b L hq =>
  h1 P s n σ H b.rel _ (PostS.bindN b hq fun ds n1 p xs H1 r1 e1 np hp ha q1 => by
    refine h2 (p :: P) s n1 σ H1 r1 _ ?_
    have bb : BRel tp B P0 (p :: P) s n1 σ H1 := ⟨r1, fun a o h => e1 a o (fun z => by rw [b.twn a z] at h; cases h) (b.sm a o h), fun a h => List.mem_cons_of_mem _ (b.sub a h), fun a h => by
      rcases List.mem_cons.mp h with rfl | h
      · exact .inr (b.sm.free np)
      · exact b.new a h, b.own, b.twn⟩
    refine PostS.bind bb q1 fun d n2 v H2 b2 e2 r2 q2 => ?_
    have ntp : ¬ tp.gh p := fun z => b.rel.gn p z np
    have hp2 : H2 p = some (.lst xs) := e2 p _ ntp hp
    have b3 := b.setOw (n' := n2) (H' := H2) b2.rel (e1.trans e2) np hp2 (ha.mono (r1.fz e2)) i
    exact par2_of fun q hq => q2 (p :: P) _ _ ((b3.setIm r2).upd hq))
theorem sim_parM2 {fn : SNg τ} (i j : Nat) (hij : i ≠ j) (h1 : SimE tp Ec ta fa) (h2 : SimN tp Ec tb fn) : SimS tp Ec (tPar2 K i j (tCons ta (tCons tb tNil))) (sParM i j fa fn) := fun B P0 P s n σ H b L hq =>
  h1 P s n σ H b.rel _ (PostS.bind b hq fun d n1 v H1 b1 e1 r1 q1 => h2 P s n1 σ H1 b1.rel _ (PostS.bindN b1 q1 fun ds n2 p xs H2 r2 e2 np hp ha q2 => by
    have fz : Same (Fz P H1) (Fz (p :: P) H2) := fun a o h => by
      have h1 : a ∉ P := fun z => by
        rw [Fz_in z] at h
        cases h
      rw [Fz_out h1] at h
      have h2 : a ≠ p := ne_of_none h np
      rw [Fz_out (by simp [h1, h2])]
      exact e2 a o (fun z => h1 (b1.rel.gp a z).1) h
    have b3 := (b1.setOw r2 e2 np hp ha j).setIm (i := i) (r1.mono fz)
    rw [List.set_comm _ _ (Ne.symm hij), List.set_comm _ _ (Ne.symm hij)] at b3
    exact par2_of fun q hq => q2 (p :: P) _ _ (b3.upd hq)))
end
/-! ### words for comprehensions -/
theorem pi_seqK {X : Cx} {tg l : Expr} {tl : TE} {K : Frg} (hK : X.K = K) (hl : PE X l tl) : PI X tg l (iSeq K tl) := hK ▸ pi_seq hl
theorem OpR.at {X : Cx} {o : Value → Value → Sem Value} {r : Frg → R2} {K : Frg} (hK : X.K = K) (h : OpR X o (r X.K)) : OpR X o (r K) := hK ▸ h
theorem CallR.at {X : Cx} {f : Value} {r : Frg → List V → Hp → VK → Prop} {K : Frg} (hK : X.K = K) (h : CallR X f (r X.K)) : CallR X f (r K) := hK ▸ h
theorem ixSeqK {X : Cx} {K : Frg} (hK : X.K = K) : IxR X (rIx K) := hK ▸ ix_seq
theorem slK {X : Cx} {K : Frg} (hK : X.K = K) : L2.SlR X (rSlU K) := hK ▸ o_sl
end G
end

section
set_option Elab.async false
set_option linter.all false
set_option backward.match.sparseCases false
set_option maxRecDepth 100000
/-! xs[::-1] of a list or a tuple -/
namespace G
open L2 PySem PyProof.Rows PySem.Spec HT
section
variable {prog : Program} {w : World} {A : Around} {E : Value → Shared → Prop} {s : Shared}
theorem sliceApplied_rev {sl : Addr} {vl vu vs : Value} {n : Nat} {Q : Int × Int × Nat → Shared → Prop} (hs : s.heap.IsSliceOf sl vl vu vs) (pl : IsPart vl none) (pu : IsPart vu none) (ps : IsPart vs (some (-1)))
    (h : Q ((n : Int) - 1, -1, n) s) : wpAny (model prog w) A (Builtin.Slice.sliceApplied (.ref sl) (pure (n : Int))) Q E s := by
  obtain ⟨os, hos, hcs, hds⟩ := id hs
  unfold Builtin.Slice.sliceApplied Builtin.Slice.sliceFields
  refine wpAny_bind (wpAny_bind (wpAny_field hos hds (x := vl) rfl (wpAny_bind (wpAny_field hos hds (x := vu) rfl (wpAny_bind (wpAny_field hos hds (x := vs) rfl (wpAny_pure ?_)))))))
  refine wpAny_bind (slicePart_ ps ?_)
  show wpAny _ _ (if ((-1 : Int) == 0) = true then _ else _) _ _ s
  rw [if_neg (by decide)]
  refine wpAny_bind (slicePart_ pl (wpAny_bind (slicePart_ pu (wpAny_bind (wpAny_pure ?_)))))
  show wpAny _ _ (pure ((n : Int) - 1, (-1 : Int), Builtin.Slice.slicePlaces ((n : Int) - 1) (-1) (-1))) _ _ s
  have e : Builtin.Slice.slicePlaces ((n : Int) - 1) (-1) (-1) = n := by
    unfold Builtin.Slice.slicePlaces
    have h1 : ¬ ((-1 : Int) > 0) := by omega
    simp only [h1, if_false]
    rw [show (-(-1 : Int)) = 1 from rfl, Int.ediv_one]
    split <;> omega
  rw [e]
  exact wpAny_pure h
theorem pick_rev (xs : Array Value) : ((List.range xs.size).filterMap fun (m : Nat) => xs[((xs.size : Int) - 1 + (m : Int) * (-1)).toNat]?).toArray = xs.toList.reverse.toArray := by
  congr 1
  have h1 : ∀ m ∈ List.range xs.size, xs[((xs.size : Int) - 1 + (m : Int) * (-1)).toNat]? = some ((xs.toList.reverse).getD m .none) := fun m hm => by
    rw [List.mem_range] at hm
    have e : ((xs.size : Int) - 1 + (m : Int) * (-1)).toNat = xs.size - 1 - m := by omega
    rw [e, List.getD_eq_getElem?_getD, List.getElem?_reverse (by rw [Array.length_toList]; exact hm), Array.length_toList, Array.getElem?_toList, Array.getElem?_eq_getElem (by omega)]
    rfl
  have h2 : ∀ (L : List Nat) (f : Nat → Option Value) (g : Nat → Value), (∀ m ∈ L, f m = some (g m)) → L.filterMap f = L.map g := fun L f g => by
    induction L with
    | nil => intro _; rfl
    | cons a L ih =>
      intro h
      rw [List.filterMap_cons, h a List.mem_cons_self, ih fun m hm => h m (List.mem_cons_of_mem _ hm)]
      rfl
  rw [h2 _ _ _ h1]
  apply List.ext_getElem?
  intro i
  rw [List.getElem?_map]
  by_cases hi : i < xs.size
  · have hr : i < xs.toList.reverse.length := by rw [List.length_reverse, Array.length_toList]; exact hi
    rw [List.getElem?_range hi, List.getElem?_eq_getElem hr]
    show some (xs.toList.reverse.getD i .none) = _
    rw [List.getD_eq_getElem?_getD, List.getElem?_eq_getElem hr]
    rfl
  · rw [List.getElem?_eq_none (by rw [List.length_range]; omega), List.getElem?_eq_none (by rw [List.length_reverse, Array.length_toList]; omega)]
    rfl
theorem getItem_tuple_rev {t sl : Addr} {items : Array Value} {vl vu vs : Value} {Q : Value → Shared → Prop} (ht : IsTup s.heap t items) (hs : s.heap.IsSliceOf sl vl vu vs) (pl : IsPart vl none) (pu : IsPart vu none) (ps : IsPart vs (some (-1)))
    (h : Q (.ref s.heap.objs.size) { s with heap := s.heap.push { cls := .type "tuple", data := .seq items.toList.reverse.toArray } })
    (hsz : items.size ≤ sizeLine) : wpAny (model prog w) A (getItem (.ref t) (.ref sl)) Q E s := by
  have htake : sizeOk (.seq items.toList.reverse.toArray) := by
    show items.toList.reverse.toArray.size ≤ sizeLine
    rw [List.size_toArray, List.length_reverse, Array.length_toList]
    exact hsz
  obtain ⟨os, hos, hcs, hds⟩ := id hs
  have hTs : s.TypeIs (.ref sl) "slice" := ⟨os, hos, hcs⟩
  unfold getItem
  try with_reducible refine wpAny_holding ?_
  first | refine wpAny_bind (wpAny_pure ?_) | skip
  refine wpAny_bind (wpAny_sequenceKey ht.typeIs (by decide) ?_)
  refine wpAny_bind (wpAny_callSpecial?_slot (name := Str.ofString "__getitem__") ht.typeIs PyProof.Rows.slot_tuple_getitem
    (wpAny_call_entry PyProof.Rows.slot_tuple_getitem ht.typeIs entry_tuple_getitem ?_ (args_tuple_getitem _ _)))
  show wpAny _ _ (Builtin.Tuple.tupleItemsOf (.ref t) >>= _) _ _ s
  refine wpAny_bind (tupleItemsOf_ ht ?_)
  refine wpAny_bind (wpAny_typeOf hTs ?_)
  rw [if_pos (by decide)]
  refine wpAny_bind (sliceApplied_rev hs pl pu ps ?_)
  have hno : ¬ ((((items.size : Int) - 1) == 0 && (-1 : Int) == 1 && items.size == items.size) = true) := by
    intro q
    rw [Bool.and_eq_true, Bool.and_eq_true] at q
    exact absurd q.1.2 (by decide)
  show wpAny _ _ (if ((((items.size : Int) - 1) == 0 && (-1 : Int) == 1 && items.size == items.size) = true) then _ else _) _ _ s
  rw [if_neg hno, pick_rev]
  first
    | exact wpAny_bind (m := Builtin.Tuple.tupleExact _) (wpAny_newObj_type (wpAny_pure ⟨_, rfl, wpAny_pure h⟩) htake)
    | exact wpAny_bind (m := Builtin.Tuple.tupleExact _) (wpAny_newObj_type (wpAny_bind (wpAny_pure (wpAny_pure ⟨_, rfl, wpAny_pure h⟩))) htake)
    | exact wpAny_bind (wpAny_bind (m := Builtin.Tuple.tupleExact _) (wpAny_newObj_type (wpAny_pure (wpAny_pure ⟨_, rfl, wpAny_pure h⟩)) htake))
    | exact wpAny_bind (wpAny_bind (m := Builtin.Tuple.tupleExact _) (wpAny_newObj_type (wpAny_pure ⟨_, rfl, wpAny_pure h⟩) htake))
end
section
variable {X : Cx}
def tRevU (K : Frg) (te : TE) : TE := fun σ H Q => te σ H fun x H1 => ∃ a xs, x = .ref a ∧ ((SqL K H1 a xs ∧ ∀ p, H1 p = none → Q (.ref p) (upd H1 p (.lst xs.reverse))) ∨ (SqT K H1 a xs ∧ ∀ p, H1 p = none → Q (.ref p) (upd H1 p (.tup xs.reverse))))
theorem pe_revU {e : Expr} {te : TE} {k : Nat} {p1 p2 p3 pos : Pos} (he : PE X e te) : PE X (.Subscript e (.Slice none none (some (.UnaryOp .USub (.Constant (.int 1) k p1) p2)) p3) pos) (tRevU X.K te) := by
  refine ⟨fun pins s σ H Q I h => ?_⟩
  refine Subscript_ (thn (he.run pins s σ H _ I h) fun v s1 ⟨x, H1, I1, r1, q1⟩ => ?_)
  obtain ⟨a, xs, ex, q⟩ := q1
  subst ex
  cases r1
  have hst : PO X (some (.UnaryOp .USub (.Constant (.int 1) k p1) p2)) (tPart (tUn (rU fun i => .int (-i)) (tC (.int 1)))) := po_some (pe_un un_neg pe_int)
  refine wpAny_Slice (thn (po_none.run pins s1 σ H1 (fun o H2 => o = none ∧ H2 = H1) I1 ⟨rfl, rfl⟩) fun vl s2 ⟨l, H2, I2, pl, el, e2⟩ => ?_)
  subst el e2
  refine thn (po_none.run pins s2 σ H2 (fun o H3 => o = none ∧ H3 = H2) I2 ⟨rfl, rfl⟩) fun vu s3 ⟨u, H3, I3, pu, eu, e3⟩ => ?_
  subst eu e3
  refine thn (hst.run pins s3 σ H3 (fun o H4 => o = some (-1) ∧ H4 = H3) I3 ⟨1, rfl, -1, rfl, rfl, rfl⟩) fun vs s4 ⟨o, H4, I4, ps, eo, e4⟩ => ?_
  subst eo e4
  have I5 : Inv X pins σ H4 { s4 with heap := s4.heap.push { cls := .type "slice", data := .fields #[vl, vu, vs] } } := I4.kept (t' := s4.toks) fun b ob q => Heap.get?_push_of_some _ q
  show wpAny (model X.prog X.w) X.A (subscriptTail e (.Slice none none (some (.UnaryOp .USub (.Constant (.int 1) k p1) p2)) p3) (.ref a) (.ref s4.heap.objs.size)) (EP X pins σ Q) X.xe { s4 with heap := s4.heap.push { cls := .type "slice", data := .fields #[vl, vu, vs] } }
  rcases q with ⟨hx, q⟩ | ⟨hx, q⟩
  · obtain ⟨its, r, ht, hz⟩ := I5.list hx
    have hlen := r.length
    refine tail_any (ops := [.ref a, .ref s4.heap.objs.size]) ht.isList.typeIs (PySem.slot_list_getitem.lookup) ?_ (by with_unfolding_all rfl)
    refine wpAny_getItem_list_slice ht.isList (Heap.IsSliceOf.new _ vl vu vs) pl pu ps (by decide) ?_ (by rw [List.size_toArray]; omega)
    rw [PySem.W.krv_pick]
    refine ⟨.ref _, _, I5.laid (t' := s4.toks) (o := .lst xs.reverse) (fun b ob q => Heap.get?_push_of_some _ q) (Nat.le_refl _) ?_, rfl, q _ (I5.hok.fresh (Nat.le_refl _))⟩
    exact ⟨by rw [List.length_reverse]; exact hz, _, 0, r.reverse, Heap.get?_push_size _ rfl⟩
  · obtain ⟨its, r, ht, hz⟩ := I5.tuple hx
    have hlen := r.length
    refine tail_any (ops := [.ref a, .ref s4.heap.objs.size]) ht.typeIs (PyProof.Rows.slot_tuple_getitem.lookup) ?_ (by with_unfolding_all rfl)
    refine getItem_tuple_rev ht (Heap.IsSliceOf.new _ vl vu vs) pl pu ps ?_ (by rw [List.size_toArray]; omega)
    refine ⟨.ref _, _, I5.laid (t' := s4.toks) (o := .tup xs.reverse) (fun b ob q => Heap.get?_push_of_some _ q) (Nat.le_refl _) ?_, rfl, q _ (I5.hok.fresh (Nat.le_refl _))⟩
    exact ⟨by rw [List.length_reverse]; exact hz, _, r.reverse, ⟨_, Heap.get?_push_size _ rfl, rfl, 0, rfl⟩⟩
end
def dRev : D → Option D
  | .lst ds => some (.lst ds.reverse)
  | .tup ds => some (.tup ds.reverse)
  | _ => none
def sRev (fe : SEg τ) : SEg τ := fun s n => bindE (fe s n) fun d n1 => optE (dRev d) n1
theorem sim_rev {tp : Tp τ} {Ec : EC} {te : TE} {fe : SEg τ} {K : Frg} (he : SimE tp Ec te fe) (hK : tp.K = K := by rfl) : SimE tp Ec (tRevU K te) (sRev fe) := fun P s n σ H r Q hq =>
  he P s n σ H r _ (hq.bind fun d n1 v H1 r1 e1 rv q1 => by
    subst hK
    cases d with
    | lst ds =>
      obtain ⟨a, xs, rfl, ha, hx⟩ := rv.lst_inv
      exact ⟨a, xs, rfl, .inl ⟨.inl (.inl (Fz_sub _ _ _ _ ha)), fun p hp => q1.pure r1 (same_new hp) (.lst (Fz_new r1 hp) (hx.reverse.mono (Fz_mono (same_new hp))))⟩⟩
    | tup ds =>
      obtain ⟨a, xs, rfl, ha, hx⟩ := rv.tup_inv
      exact ⟨a, xs, rfl, .inr ⟨.inl (.inl (Fz_sub _ _ _ _ ha)), fun p hp => q1.pure r1 (same_new hp) (.tup (Fz_new r1 hp) (hx.reverse.mono (Fz_mono (same_new hp))))⟩⟩
    | _ => exact False.elim q1)
end G
end

section
set_option Elab.async false
set_option linter.all false
set_option backward.match.sparseCases false
set_option maxRecDepth 100000
/-! try: return e / except SumError as e: return _law_which(e) -/
namespace G
open L2 L2H PySem PyProof.Rows PySem.Spec HT
section
variable {X : Cx}
/-- xs.count(y), flat items -/
def rCntF (K : Frg) : V → List V → Hp → VK → Prop := fun x xs H Q => ∃ (a : Addr) (ys : List V) (y : V), x = V.ref a ∧ xs = [y] ∧ SqL K H a ys ∧ flatV y = true ∧ ys.all flatV = true ∧ Q (.int ((ys.countP fun z => eqV z y : Nat) : Int)) H
theorem count_v {y : V} {uy : Value} (ry : RelV y uy) (fy : flatV y = true) : ∀ {ys : List V} {its : List Value}, Vals ys its → ys.all flatV = true → its.countP (eqU y) = ys.countP fun z => eqV z y
  | _, _, .nil, _ => rfl
  | z :: ys, u :: its, .cons h r, hf => by
    rw [List.all_cons, Bool.and_eq_true] at hf
    rw [List.countP_cons, List.countP_cons, count_v ry fy r hf.2, eqU_of h hf.1]
theorem mt_countF : MtR X "list.count" (rCntF X.K) := by
  intro pins s σ H x xs v us Q I rx rxs h
  obtain ⟨a, ys, y, rfl, rfl, hs, fy, fys, q⟩ := h
  cases rx
  cases rxs with
  | cons ry rt =>
    rename_i uy ut
    cases rt
    obtain ⟨its, rv, ⟨⟨cls, dd, data, sl⟩, n, ho, hc, hdn, hd⟩, hlen⟩ := I.list hs
    simp only at hc hd
    subst hc hd
    refine call_meets PySem.F.slot_list_count ⟨_, ho, rfl⟩ PySem.F.entry_list_count (PySem.F.args_list_count_2 _ _)
      (SeqAt.list_countAt a its.toArray n dd sl uy (eqU y)) ⟨ho, fun u' hu' => mem_eqAt ry fy rv fys u' (by simpa using hu'), ?_⟩
    have ec : its.toArray.toList.countP (eqU y) = ys.countP fun z => eqV z y := count_v ry fy rv fys
    refine ⟨.int ((ys.countP fun z => eqV z y : Nat) : Int), H, I.tok _, ⟨s.toks, ?_⟩, q⟩
    show Value.int ((its.toArray.toList.countP (eqU y) : Nat) : Int) s.toks = _
    rw [ec]
/-- isinstance(e, c), e an exception that is pinned -/
theorem call_isP {D : Addr} {p : Addr × Obj} (hp : p ∈ X.pn) (C : ExcC X.K D) (hz : Zc (.ref D) none p.2) (hf : ∃ vs, p.2.data = .fields vs) : CallR X (.builtin "isinstance") (rIsE X.K D p.1) := by
  intro pins s σ H xs us Q I r h
  obtain ⟨c, cv, b, rfl, hcv, e, q⟩ := h
  cases r with
  | cons rx rr =>
    cases rr with
    | cons rt rr =>
      cases rr
      cases rx
      have ec := hcv _ rt
      subst ec
      obtain ⟨hget, _⟩ := I.pin p (List.mem_append.mpr (.inl hp))
      obtain ⟨vs, hv⟩ := hf
      have J : PySem.W.InstAt s.heap p.1 p.2 D none := by
        obtain ⟨a, oc, od, oda, osl⟩ := p
        obtain ⟨h1, h2⟩ := hz
        dsimp only at h1 h2 hv
        subst h1 h2 hv
        exact ⟨hget, rfl, rfl, trivial⟩
      exact PySem.W.kia_one (PySem.W.handS_kitx_exc C.hg C.hk C.hs C.hd C.ha C.hn C.ht C.hm) I.kIn J e (fun z => nomatch z) fun tk => ⟨.bl b, H, I.kept (t' := tk) fun _ _ z => z, rfl, q⟩
end
/-! ### a def that judges an exception -/
/-- the def at f, called with the handled exception p, an instance of D -/
structure FnW (P : Program) (w : World) (K : Frg) (mg : Str → Option Value) (base : Heap) (CX : CXT) (k : Nat) (f : Addr) (fd : FuncData) (ok : Nat → Addr → Prop) : Prop where
  run : ∀ (A : Around) (outer : List Env) (s : Shared) (H : Hp) (args : Args) (us : List Value) (Q : VK) (E : XK) (p : Addr × Obj) (c : Nat) (D : Addr), RoomH k A → PinOk outer H s p → Env0 P w K mg base A outer s H → BindsTo s fd args (([("e" : Str)] : List Str).zip us) → Vals [.ref p.1] us →
    Zc (.ref D) none p.2 → (∃ vs, p.2.data = .fields vs) → ok c D → (∀ t H', Same H H' → H t = none → H' t = some (.tup [.str "raised", .int c]) → Q (.ref t) H') →
    codeAny (model P w) A (.call (.ref f) args) (CR CX outer P w H s Q E) s
theorem fn_ofW {CX : CXT} {P : Program} {w : World} {K : Frg} {mg : Str → Option Value} {base : Heap} {k : Nat} {f : Addr} {name qual : Str} {params : Arguments} {body : List Stmt} {scope : Scope} {dV kV doc pm cdv ct oc : Value} {an od : Option Addr}
    {osl : Array (Option Value)} {N : List Str} {ok : Nat → Addr → Prop} (lk : K.lookup f = some ⟨oc, od, .func (PySem.W.fnOf name qual params body scope dV kV doc pm an cdv ct), osl⟩) (hcd : PySem.W.codeIn K cdv qual = true) (S : FnScope N ["e"] scope)
    (hbody : ∀ (A : Around) (outer : List Env) (s : Shared) (H : Hp) (Q : VK) (E : XK) (p : Addr × Obj) (c : Nat) (D : Addr), RoomH k (A.deeper (envOfC qual scope s.heap.objs.size f cdv)) → Zc (.ref D) none p.2 → (∃ vs, p.2.data = .fields vs) → ok c D → (∀ t H', Same H H' → H t = none → H' t = some (.tup [.str "raised", .int c]) → Q (.ref t) H') →
      ∃ t, PSs (cxH CX P w K mg base N qual scope f cdv A outer s H E p) body t ∧ t { nx := fun _ H' => Q .non H', rt := Q } (L2.start N [.ref p.1]) H) :
    FnW P w K mg base CX (k + 1) f (PySem.W.fnOf name qual params body scope dV kV doc pm an cdv ct) ok := by
  refine ⟨fun A outer s H args us Q E p c D hr hpin e0 hb r hz hf hok hQ => ?_⟩
  have KX : K.In s.heap := e0.mod.kin.keeps fun b o e => (e0.bs b o e).1
  have lim : s.heap.NoLimit := e0.mod.nolimit.keeps fun b o e => (e0.bs b o e).1
  have hkind : ∀ y ∈ ([("e" : Str)] : List Str).zip us, scope.names.lookup y.1 = some .local ∨ (scope.names.lookup y.1 = some .cell ∧ ((cellsFrom (s.heap.objs.size + 1) scope.names []).lookup y.1).isSome = true) := fun ⟨n, v⟩ hy => by
    rcases S.par n (List.of_mem_zip hy).1 with q | q
    · exact .inl q
    · exact .inr ⟨q, PySem.W.cellsFrom_some _ _ _ (.inl q)⟩
  refine codeAny_call_function hr.depth (KX _ _ lk) rfl S.co S.gen rfl (PySem.W.codeRec_of KX hcd) (hb _ _ _ _ ?_)
  refine wpAny_newFunctionEnv_cells S.kind hkind fun env he s1 x => ?_
  subst he
  refine ⟨lim.keeps x.toInCall.keep, codeAny_func ?_⟩
  obtain ⟨t, ht, hq⟩ := hbody A outer s H Q E p c D (hr.deeper _) hz hf hok hQ
  have I : Inv (cxH CX P w K mg base N qual scope f cdv A outer s H E p) [] (L2.start N [.ref p.1]) H s1 := inv_startH S hpin e0 rfl r x
  refine wpAny_mono (ht.run [] s1 (L2.start N [.ref p.1]) H _ I hq) (fun fl s' hs => ?_) fun e s' hs => hs
  have fin : ∀ {σ' : L2.St} {H' : Hp} {v : V} {u : Value}, Inv (cxH CX P w K mg base N qual scope f cdv A outer s H E p) [] σ' H' s' → RelV v u → Q v H' → CE outer P w H s Q u s' :=
    fun {σ' H' v u} J rv q => ⟨v, H', J.os, J.bare, J.base, J.hok, rv, q⟩
  cases fl with
  | ret u =>
    obtain ⟨v, σ', H', J, rv, q⟩ := hs
    exact fin J rv q
  | next =>
    obtain ⟨σ', H', J, q⟩ := hs
    exact fin (v := V.non) (u := Value.none) J rfl q
  | brk =>
    obtain ⟨_, _, _, q⟩ := hs
    exact False.elim q
  | cont =>
    obtain ⟨_, _, _, q⟩ := hs
    exact False.elim q
/-! ### its call in the suite -/
def tCallW (ok : Nat → Addr → Prop) (a : Addr) (cls : Value) (d : Option Addr) (i : Nat) : TE := fun σ H Q => σ[i]? = some (some (.ref a)) ∧ ∃ c D, cls = .ref D ∧ d = none ∧ ok c D ∧ ∀ t H', Same H H' → H t = none → H' t = some (.tup [.str "raised", .int c]) → Q (.ref t) H'
section
variable {X : Cx} {CX : CXT} {k i : Nat} {f : Addr} {fd : FuncData} {ok : Nat → Addr → Prop} {x n : Str} {q q2 pos : Pos}
theorem pe_callW {a : Addr} {oe : Obj} {cls : Value} {d : Option Addr} (F : FnW X.prog X.w X.K X.mg X.base CX k f fd ok) (hr : RoomH k X.A) (hp : (a, oe) ∈ X.pn) (hz : Zc cls d oe) (hf : ∃ vs, oe.data = .fields vs) (hg : Gl X x) (hm : X.mg x = some (.ref f)) (hk : PySem.W.keepIn X.K (.ref f) = true) (hb : Binds X.K fd ["e"] []) (hx : ∀ σ, PassesAt CX X σ (fun _ _ _ => False))
    (hv : PE X (.Name n q2) (tVar i)) (hdb : (x == ("__debug__" : Str)) = false := by decide) :
    PE X (.Call (.Name x q) [.Name n q2] [] pos) (tCallW ok a cls d i) := by
  refine ⟨fun pins s σ H Q I h => ?_⟩
  obtain ⟨hi, c, D, rfl, rfl, hok, hQ⟩ := h
  refine wpAny_Call_Name_kw (ld_glob I hg hm ?_ hdb)
  refine PySem.W.callWith_K (h₀ := X.base) I.ok.mod.kin hk (thn ((pa_cons hv pa_nil).run pos pins s σ H (fun vs H1 => vs = [.ref a] ∧ H1 = H) I ⟨.ref a, hi, rfl, rfl⟩) fun us s1 ⟨vs, H1, I1, r, e1, e2⟩ => ⟨I1.kIn, ?_⟩) rfl rfl
  subst e1 e2
  have b := hb s1 us I1.kIn (by rw [List.append_nil]; exact r.length.symm)
  rw [List.append_nil] at b
  have P1 := I1.pin (a, oe) (List.mem_append_left _ hp)
  have hpin : PinOk X.stack H1 s1 (a, oe) := ⟨P1.1, P1.2.1, fun hm => (List.mem_cons.mp (I1.stkSub a hm)).elim P1.2.2.1 P1.2.2.2.1, P1.2.2.2.2⟩
  refine wpAny_call (codeAny_mono (F.run X.A X.stack s1 H1 ⟨us, []⟩ us Q (fun _ _ _ => False) (a, oe) c D hr hpin I1.env0 b r hz hf hok hQ) fun r s' hq => ?_)
  cases r with
  | error e => exact hx σ pins H1 s1 e s' I1 hq
  | ok fl =>
    cases fl with
    | ret u => exact I1.after hq
    | next => exact False.elim hq
    | brk => exact False.elim hq
    | cont => exact False.elim hq
end
end G
end

section
set_option Elab.async false
set_option linter.all false
set_option backward.match.sparseCases false
set_option maxRecDepth 100000
/-! _law_which(e), and the try around a returned value -/
namespace G
open L2 L2H PySem PyProof.Rows PySem.Spec HT
section
variable {K : Frg} {D a : Addr} {σ : L2.St} {H : Hp}
/-- isinstance(e, c) -/
abbrev tIs (K : Frg) (D a : Addr) (c : V) : TE := tCB (rIsE K D a) (tCons (tVar 0) (tCons (tC c) tNil))
def taIs (K : Frg) (D a : Addr) : List V → TA
  | [] => tNil
  | c :: cs => tCons (tIs K D a c) (taIs K D a cs)
/-- what isinstance says of each of some classes -/
inductive Kit (K : Frg) (D : Addr) : List V → List Bool → Prop
  | nil : Kit K D [] []
  | cons {C : Addr} {b : Bool} {cs : List V} {bs : List Bool} : PySem.W.kitOne K (.ref D) (.ref C) = some b → Kit K D cs bs → Kit K D (.ref C :: cs) (b :: bs)
theorem Kit.len {cs : List V} {bs : List Bool} (h : Kit K D cs bs) : cs.length = bs.length := by
  induction h with
  | nil => rfl
  | cons _ _ ih =>
    show _ + 1 = _ + 1
    rw [ih]
theorem taIs_run (h0 : σ[0]? = some (some (.ref a))) : ∀ {cs : List V} {bs : List Bool} {Q : List V → Hp → Prop}, Kit K D cs bs → Q (bs.map V.bl) H → taIs K D a cs σ H Q
  | _, _, Q, .nil, q => q
  | _, _, Q, .cons (C := C) (b := b) hk r, q => ⟨.ref a, h0, .ref C, .ref C, b, rfl, fun u hu => hu, hk, taIs_run h0 (Q := fun xs H2 => Q (.bl b :: xs) H2) r q⟩
theorem ext_run {p : Addr} {xs : List V} {cs : List V} {bs : List Bool} {E : Ends} {H0 : Hp} (h0 : σ[0]? = some (some (.ref a))) (h1 : σ[1]? = some (some (.ref p))) (np : H0 p = none) (sm : Same H0 H) (hp : H p = some (.lst xs)) (hk : Kit K D cs bs) (hl : xs.length + bs.length ≤ 1000)
    (q : ∀ H', Same H0 H' → H' p = some (.lst (xs ++ bs.map V.bl)) → E.nx σ H') : tDrop (tBM K "list" rExtend (tVar 1) (tCons (tLst (taIs K D a cs)) tNil)) E σ H := by
  refine ⟨.ref p, h1, .inl ⟨rfl, xs, .inl (.inl hp)⟩, taIs_run h0 hk ⟨?_, fun r nr => ?_⟩⟩
  · rw [List.length_map]
    exact Nat.le_trans (by omega) (show 1000 ≤ sizeLine by decide)
  · have e1 : L2.upd H r (.lst (bs.map V.bl)) p = some (.lst xs) := by
      rw [upd_ne (ne_of_none hp nr)]
      exact hp
    refine ⟨p, r, xs, bs.map V.bl, rfl, rfl, e1, upd_same, ?_, q _ (fun b o hb => ?_) upd_same⟩
    · rw [List.length_map]
      exact Nat.le_trans hl (show 1000 ≤ sizeLine by decide)
    · have n1 : b ≠ p := ne_of_none hb np
      have n2 : b ≠ r := ne_of_none (sm _ _ hb) nr
      rw [upd_ne n1, upd_ne n2]
      exact sm _ _ hb
theorem flat_bls : ∀ bs : List Bool, (bs.map V.bl).all flatV = true
  | [] => rfl
  | _ :: bs => flat_bls bs
/-- the classes, five rows of them -/
theorem which_t {c1 c2 c3 c4 c5 : List V} {b1 b2 b3 b4 b5 : List Bool} {c : Nat} {Q : VK} (k1 : Kit K D c1 b1) (k2 : Kit K D c2 b2) (k3 : Kit K D c3 b3) (k4 : Kit K D c4 b4) (k5 : Kit K D c5 b5)
    (hb : b1 ++ b2 ++ b3 ++ b4 ++ b5 = (List.range 14).map fun i => decide (i = c)) (hc : c < 14) (hv : PySem.W.kitOne K (.ref D) (.type "ValueError") = some true)
    (q : ∀ t H', Same H H' → H t = none → H' t = some (.tup [.str "raised", .int c]) → Q (.ref t) H') :
    (tSeq (tAsg (tLst (taIs K D a c1)) (gName 1)) (tSeq (tDrop (tBM K "list" rExtend (tVar 1) (tCons (tLst (taIs K D a c2)) tNil))) (tSeq (tDrop (tBM K "list" rExtend (tVar 1) (tCons (tLst (taIs K D a c3)) tNil))) (tSeq (tDrop (tBM K "list" rExtend (tVar 1) (tCons (tLst (taIs K D a c4)) tNil)))
      (tSeq (tDrop (tBM K "list" rExtend (tVar 1) (tCons (tLst (taIs K D a c5)) tNil)))
      (tSeq (tIfS (tOr (tTest (tOp (rNeD K) (tBM K "list" (rCntF K) (tVar 1) (tCons (tC (.bl true)) tNil)) (tC (.int 1)))) (tNot (tB (tIs K D a (.ty "ValueError"))))) (tRet (tTup (tCons (tC (.str "raised")) (tCons (tUn (rU fun i => .int (-i)) (tC (.int 1))) tNil)))) tNext)
        (tRet (tTup (tCons (tC (.str "raised")) (tCons (tBM K "list" (rIndex K) (tVar 1) (tCons (tC (.bl true)) tNil)) tNil)))))))))) { nx := fun _ H' => Q .non H', rt := Q } [some (.ref a), none] H := by
  have hlen : b1.length + b2.length + b3.length + b4.length + b5.length = 14 := by
    have := congrArg List.length hb
    simp at this
    omega
  refine taIs_run (σ := [some (.ref a), none]) rfl k1 ⟨?_, fun p np => ?_⟩
  · rw [List.length_map]
    exact Nat.le_trans (by omega) (show 1000 ≤ sizeLine by decide)
  · have s0 : Same H (L2.upd H p (.lst (b1.map V.bl))) := same_new np
    refine ext_run (σ := [some (.ref a), some (.ref p)]) (H0 := H) rfl rfl np s0 upd_same k2 (by rw [List.length_map]; omega) fun H2 s2 p2 => ?_
    refine ext_run (σ := [some (.ref a), some (.ref p)]) (H0 := H) rfl rfl np s2 p2 k3 (by simp; omega) fun H3 s3 p3 => ?_
    refine ext_run (σ := [some (.ref a), some (.ref p)]) (H0 := H) rfl rfl np s3 p3 k4 (by simp; omega) fun H4 s4 p4 => ?_
    refine ext_run (σ := [some (.ref a), some (.ref p)]) (H0 := H) rfl rfl np s4 p4 k5 (by simp; omega) fun H5 s5 p5 => ?_
    rw [← List.map_append, ← List.map_append, ← List.map_append, ← List.map_append, hb] at p5
    let bs : List Bool := (List.range 14).map fun i => decide (i = c)
    have p5 : H5 p = some (.lst (bs.map V.bl)) := p5
    have hcnt : ((bs.map V.bl).countP fun z => eqV z (.bl true)) = 1 := by
      have : ∀ c < 14, ((((List.range 14).map fun i => decide (i = c)).map V.bl).countP fun z => eqV z (.bl true)) = 1 := by decide
      exact this c hc
    have hix : (bs.map V.bl)[c]? = some (.bl true) := by
      have : ∀ c < 14, ((List.range 14).map fun i => decide (i = c))[c]? = some true := by decide
      rw [List.getElem?_map, this c hc]
      rfl
    have hbef : ∀ (m : Nat) (z' : V), m < c → (bs.map V.bl)[m]? = some z' → eqV z' (.bl true) = false := by
      intro m z' hm hz
      have h14 : ∀ c < 14, ∀ m < c, ((List.range 14).map fun i => decide (i = c))[m]? = some false := by decide
      rw [List.getElem?_map, h14 c hc m hm] at hz
      cases hz
      rfl
    have ty : tyV K "list" (.ref p) H5 := .inl ⟨rfl, _, .inl (.inl p5)⟩
    refine ⟨.ref p, rfl, ty, p, bs.map V.bl, .bl true, rfl, rfl, .inl (.inl p5), rfl, flat_bls bs, ?_⟩
    rw [hcnt]
    unfold tC
    dsimp only
    refine s_ne (K := K) [] (.int ((1 : Nat) : Int)) (.int 1) (.int 1) (.int 1) (.bl false) H5 _ (fun a h => by cases h) (.int 1) (.int 1) rfl fun v H6 s6 rv => ?_
    rw [rv.bl_inv]
    refine ⟨false, rfl, ?_⟩
    have p6 : H6 p = some (.lst (bs.map V.bl)) := s6 _ _ p5
    refine ⟨.ref a, rfl, .ty "ValueError", .type "ValueError", true, rfl, fun u hu => hu, hv, ?_⟩
    refine ⟨true, rfl, ?_⟩
    have ty6 : tyV K "list" (.ref p) H6 := .inl ⟨rfl, _, .inl (.inl p6)⟩
    refine ⟨.ref p, rfl, ty6, p, bs.map V.bl, .bl true, c, .bl true, rfl, rfl, .inl (.inl p6), rfl, flat_bls bs, hix, rfl, hbef, ?_⟩
    refine ⟨by show 2 ≤ sizeLine; decide, fun t nt => q t _ ?_ ?_ upd_same⟩
    · exact (s5.trans s6).trans (same_new nt)
    · exact (s5.trans s6).free nt
end
end G
end

section
set_option Elab.async false
set_option linter.all false
set_option backward.match.sparseCases false
set_option maxRecDepth 100000
/-! the try -/
namespace G
open L2 L2H PySem PyProof.Rows PySem.Spec HT
section
variable {tp : Tp τ} {Ec : EC} {mg : Str → Option Value} {tr : TA} {fr : SAg τ} {te : TE} {fe : SEg τ}
/-- what is raised is wished for at the slots, of which the i-th is one -/
def EcX (mg : Str → Option Value) (i : Nat) (W : WX) : EC := fun c H => ∀ C, mg (errN c) = some (.ref C) → ∀ σ : L2.St, i < σ.length → W (.ref C) none σ H
/-- a call in a try -/
def sCallX (i : Nat) (g : List D → R D) (fr : SAg τ) : SEg τ := fun s n => if i < s.length then sCallP g fr s n else .no
theorem sim_callX {i : Nat} {W : WX} {g : List D → R D} (hr : SimA tp (EcX mg i W) tr fr) : SimE tp (EcX mg i W) (tCallS (spP tp.K mg g) (WE W) tr) (sCallX i g fr) := fun P s n σ H r Q hq => by
  unfold sCallX at hq
  split at hq
  · rename_i hi
    refine hr P s n σ H r _ (hq.bind fun xs n1 vs H1 r1 e1 rv q1 => ?_)
    cases e : plain xs with
    | none => rw [e] at q1; exact False.elim q1
    | some ds =>
      rw [e] at q1
      refine ⟨P, ds, r1.pin, plain_rp rv e, ?_⟩
      have q1 : Post (Rp tp.K) tp (EcX mg i W) P s σ H1 (liftR (g ds) n1) Q := q1
      cases eg : g ds with
      | ok d => rw [eg] at q1; exact fun v H' sm rd => q1.pure r1 sm rd
      | ex c =>
        rw [eg] at q1
        exact fun H' sm C hC => q1 H' (Same.toT sm) C hC σ (by rw [← r.len]; exact hi)
      | no => rw [eg] at q1; exact q1
  · exact False.elim hq
def sTry (i : Nat) (cs : List Nat) (fe : SEg τ) : SSg τ := fun s n => if i < s.length then (match fe s n with
  | .ok (d, n1) => .rt d n1
  | .ex c => if c ∈ cs then .rt (.tup [.str "raised", .int c]) n else .no
  | .no => .no) else .no
theorem sim_try {K : Frg} {cv : Value} {i : Nat} {cs : List Nat} {ok : Nat → Addr → Prop} {Wout : WX} {te : WX → TE} (hK : tp.K = K) (ha : tp.gh = fun _ => False) (he : ∀ W, SimE tp (EcX mg i W) (te W) fe)
    (hx : ∀ c, c ∈ cs → ∀ C, mg (errN c) = some (.ref C) → PySem.W.exmOne K (.ref C) cv = some true ∧ ok c C) :
    SimS tp Ec (fun D σ H => tRet (te (wAs K cv i (fun a cls d => tRet (tCallW ok a cls d i)) Wout D)) D σ H) (sTry i cs fe) := fun B P0 P s n σ H b L hq => by
  subst hK
  unfold sTry at hq
  split at hq
  · rename_i hi
    refine he _ P s n σ H b.rel _ ?_
    have nt : ∀ {H1 H2 : Hp}, SameT tp H1 H2 → Same H1 H2 := fun e a o h => e a o (by rw [ha]; exact fun z => z) h
    cases e : fe s n with
    | ok x =>
      obtain ⟨d, n1⟩ := x
      rw [e] at hq
      intro v H1 r1 e1 rv
      have b1 := b.grow r1 e1
      exact hq v H1 b1.sm b1.iv0 b1.pin0 (rv.mono (Fz_less b1.sub))
    | ex c =>
      rw [e] at hq
      have hq : PostS tp Ec B P0 (if c ∈ cs then .rt (.tup [.str "raised", .int c]) n else .no) L := hq
      split at hq
      · rename_i hc
        intro H1 e1 C hC σ1 hs1
        obtain ⟨x1, x2⟩ := hx c hc C hC
        refine ⟨true, x1, fun _ a na => ?_, fun z => nomatch z⟩
        refine ⟨?_, c, C, rfl, rfl, x2, fun t H2 sm ht e2 => ?_⟩
        · rw [List.getElem?_set_self hs1]
        · have s2 : Same H H2 := (nt e1).trans sm
          refine hq (.ref t) H2 (b.sm.trans s2) (tp.st n P0 P0 H H2 b.iv0 (fun b o _ h => s2 b o h) (Fz_mono s2)) (fun a' hp0 => ?_) ?_
          · exact (b.pin0 a' hp0).same fun o h => s2 _ o h
          · have nt0 : t ∉ P0 := fun z => by
              have h1 := b.pin0 t z
              cases e3 : H t with
              | none => exact h1 e3
              | some o =>
                rw [(nt e1) _ _ e3] at ht
                cases ht
            exact .tup (by rw [Fz_out nt0]; exact e2) (.cons (.str _) (.cons (.int _) .nil))
      · exact False.elim hq
    | no =>
      rw [e] at hq
      exact hq
  · exact False.elim hq
end
/-! ### the classes -/
def wokB (K : Frg) (wl : List Addr) (sE : Addr) (c : Nat) : Bool :=
  (PySem.W.findIn K (.ref (wl.getD c 0)) "__getattribute__" == some (some (.builtin "BaseException.__getattribute__"))) && ((PySem.W.findIn K (.ref (wl.getD c 0)) "__getattr__" == some none) && ((PySem.W.subIn K (.ref (wl.getD c 0)) (.type "BaseException") == some true) && (PySem.W.hasDictIn K (wl.getD c 0) &&
  ((PySem.W.findIn K (.ref (wl.getD c 0)) "__class__" == some (some (.builtin "object.__class__"))) && ((PySem.W.specialIn K (.builtin "object.__class__") "__get__" == some (some (.builtin "getset_descriptor.__get__"))) && ((PySem.W.takesIn K (.builtin "object.__class__") == some true) && ((PySem.W.mroIn K (wl.getD c 0) (.type "object") == some true) &&
  (((List.range 14).all fun j => PySem.W.kitOne K (.ref (wl.getD c 0)) (.ref (wl.getD j 0)) == some (decide (j = c))) && ((PySem.W.kitOne K (.ref (wl.getD c 0)) (.type "ValueError") == some true) && ((PySem.W.exmOne K (.ref (wl.getD c 0)) (.ref sE) == some true) && decide (c < 14)))))))))))
structure WC (K : Frg) (wl : List Addr) (sE : Addr) (c : Nat) : Prop where
  x : ExcC K (wl.getD c 0)
  kit : ∀ j, j < 14 → PySem.W.kitOne K (.ref (wl.getD c 0)) (.ref (wl.getD j 0)) = some (decide (j = c))
  ve : PySem.W.kitOne K (.ref (wl.getD c 0)) (.type "ValueError") = some true
  ex : PySem.W.exmOne K (.ref (wl.getD c 0)) (.ref sE) = some true
  lt : c < 14
theorem wc_of {K : Frg} {wl : List Addr} {sE : Addr} {c : Nat} (h : wokB K wl sE c = true) : WC K wl sE c := by
  unfold wokB at h
  simp only [Bool.and_eq_true, beq_iff_eq, List.all_eq_true, decide_eq_true_eq, List.mem_range] at h
  obtain ⟨h1, h2, h3, h4, h5, h6, h7, h8, h9, h10, h11, h12⟩ := h
  exact ⟨⟨h1, h2, h3, h4, h5, h6, h7, h8⟩, h9, h10, h11, h12⟩
structure WOk (K : Frg) (mg : Str → Option Value) (wl : List Addr) (sE : Addr) (cs : List Nat) : Prop where
  g : ∀ j, j < 14 → mg (errN j) = some (.ref (wl.getD j 0))
  sg : mg "SumError" = some (.ref sE)
  c : ∀ c, c ∈ cs → WC K wl sE c
abbrev okW (wl : List Addr) (cs : List Nat) : Nat → Addr → Prop := fun c D => c ∈ cs ∧ D = wl.getD c 0
theorem WOk.hx {K : Frg} {mg : Str → Option Value} {wl : List Addr} {sE : Addr} {cs : List Nat} (W : WOk K mg wl sE cs) : ∀ c, c ∈ cs → ∀ C, mg (errN c) = some (.ref C) → PySem.W.exmOne K (.ref C) (.ref sE) = some true ∧ okW wl cs c C := fun c hc C hC => by
  have w := W.c c hc
  have e : C = wl.getD c 0 := by
    have := (W.g c w.lt).symm.trans hC
    injection this with this
    injection this with this
    exact this.symm
  subst e
  exact ⟨w.ex, hc, rfl⟩
theorem fnW' {P : Program} {w : World} {K : Frg} {mg : Str → Option Value} {base : Heap} {x qual : Str} {st : Stmt} {f : Addr} {fd : FuncData} {N : List Str} {k : Nat} {wl : List Addr} {sE : Addr} {cs : List Nat} (F : Fun K x qual st f fd) (S : FnScope N ["e"] (defScope st)) (W : WOk K mg wl sE cs)
    (hbody : ∀ (cdv : Value) (A : Around) (outer : List Env) (s : Shared) (H : Hp) (E : XK) (p : Addr × Obj) (c : Nat), RoomH k (A.deeper (envOfC qual (defScope st) s.heap.objs.size f cdv)) → ExcC K (wl.getD c 0) → Zc (.ref (wl.getD c 0)) none p.2 → (∃ vs, p.2.data = .fields vs) → WC K wl sE c →
      ∃ t, PSs (cxH (L2.CX P w) P w K mg base N qual (defScope st) f cdv A outer s H E p) (defBody st) t ∧ ∀ Q : VK, (∀ t H', Same H H' → H t = none → H' t = some (.tup [.str "raised", .int c]) → Q (.ref t) H') → t { nx := fun _ H' => Q .non H', rt := Q } (L2.start N [.ref p.1]) H) :
    FnW P w K mg base (L2.CX P w) (k + 1) f fd (okW wl cs) := by
  obtain ⟨oc, od, kV, doc, pm, an, cdv, ct, osl, rfl, lk, hcd⟩ := F.ex
  refine fn_ofW lk hcd S fun A outer s H Q E p c D hr hz hf hok hQ => ?_
  obtain ⟨hc, rfl⟩ := hok
  obtain ⟨t, h1, h2⟩ := hbody cdv A outer s H E p c hr (W.c c hc).x hz hf (W.c c hc)
  exact ⟨t, h1, h2 Q hQ⟩
/-- the kit of a row of classes -/
theorem kit3 {K : Frg} {wl : List Addr} {sE : Addr} {c : Nat} (w : WC K wl sE c) (i : Nat) (hi : i + 2 < 14) : Kit K (wl.getD c 0) [.ref (wl.getD i 0), .ref (wl.getD (i + 1) 0), .ref (wl.getD (i + 2) 0)] [decide (i = c), decide (i + 1 = c), decide (i + 2 = c)] :=
  .cons (w.kit i (by omega)) (.cons (w.kit (i + 1) (by omega)) (.cons (w.kit (i + 2) hi) .nil))
theorem kit2 {K : Frg} {wl : List Addr} {sE : Addr} {c : Nat} (w : WC K wl sE c) (i : Nat) (hi : i + 1 < 14) : Kit K (wl.getD c 0) [.ref (wl.getD i 0), .ref (wl.getD (i + 1) 0)] [decide (i = c), decide (i + 1 = c)] :=
  .cons (w.kit i (by omega)) (.cons (w.kit (i + 1) hi) .nil)
theorem roomU {k : Nat} {A : Around} (r : RoomH k A) : A.units + 64 < cLine := by have := r.un; omega
theorem pass_suite {P : Program} {w : World} {X : Cx} {a : Addr} {pn : List (Addr × Obj)} (σ : L2.St) : PassesAt (L2.CX P w) (X.suite a pn) σ (fun _ _ _ => False) := fun pins H s e s' I c => by
  obtain ⟨_, _, _, _, _, _, _, _, _, _, _, _, h⟩ := c
  exact h
end G
namespace G
open L2 L2H PySem PyProof.Rows PySem.Spec
theorem roomM {k : Nat} {A : Around} {v : Option Value} (r : Room k A) : RoomH k (A.mark v) := ⟨r.dp, r.un⟩
end G
namespace G
open L2 L2H PySem PyProof.Rows PySem.Spec
section
variable {K : Frg} {a : Addr} {H : Hp} {wl : List Addr} {sE : Addr} {c : Nat} {Q : VK}
abbrev tI (K : Frg) (wl : List Addr) (c : Nat) (a : Addr) (j : Nat) : TE := tIs K (wl.getD c 0) a (.ref (wl.getD j 0))
theorem which_u (w : WC K wl sE c) (q : ∀ t H', Same H H' → H t = none → H' t = some (.tup [.str "raised", .int c]) → Q (.ref t) H') :
    (tSeq (tAsg (tLst (tCons (tI K wl c a 0) (tCons (tI K wl c a 1) (tCons (tI K wl c a 2) tNil)))) (gName 1)) (tSeq (tDrop (tBM K "list" rExtend (tVar 1) (tCons (tLst (tCons (tI K wl c a 3) (tCons (tI K wl c a 4) (tCons (tI K wl c a 5) tNil)))) tNil))) (tSeq (tDrop (tBM K "list" rExtend (tVar 1) (tCons (tLst (tCons (tI K wl c a 6) (tCons (tI K wl c a 7) (tCons (tI K wl c a 8) tNil)))) tNil)))
      (tSeq (tDrop (tBM K "list" rExtend (tVar 1) (tCons (tLst (tCons (tI K wl c a 9) (tCons (tI K wl c a 10) (tCons (tI K wl c a 11) tNil)))) tNil)))
      (tSeq (tDrop (tBM K "list" rExtend (tVar 1) (tCons (tLst (tCons (tI K wl c a 12) (tCons (tI K wl c a 13) tNil))) tNil)))
      (tSeq (tIfS (tOr (tTest (tOp (rNeD K) (tBM K "list" (rCntF K) (tVar 1) (tCons (tC (.bl true)) tNil)) (tC (.int 1)))) (tNot (tB (tIs K (wl.getD c 0) a (.ty "ValueError"))))) (tRet (tTup (tCons (tC (.str "raised")) (tCons (tUn (rU fun i => .int (-i)) (tC (.int 1))) tNil)))) tNext)
        (tRet (tTup (tCons (tC (.str "raised")) (tCons (tBM K "list" (rIndex K) (tVar 1) (tCons (tC (.bl true)) tNil)) tNil)))))))))) { nx := fun _ H' => Q .non H', rt := Q } [some (.ref a), none] H := by
  have k1 : Kit K (wl.getD c 0) [.ref (wl.getD 0 0), .ref (wl.getD 1 0), .ref (wl.getD 2 0)] [decide (0 = c), decide (1 = c), decide (2 = c)] := .cons (w.kit 0 (by decide)) (.cons (w.kit 1 (by decide)) (.cons (w.kit 2 (by decide)) (.nil)))
  have k2 : Kit K (wl.getD c 0) [.ref (wl.getD 3 0), .ref (wl.getD 4 0), .ref (wl.getD 5 0)] [decide (3 = c), decide (4 = c), decide (5 = c)] := .cons (w.kit 3 (by decide)) (.cons (w.kit 4 (by decide)) (.cons (w.kit 5 (by decide)) (.nil)))
  have k3 : Kit K (wl.getD c 0) [.ref (wl.getD 6 0), .ref (wl.getD 7 0), .ref (wl.getD 8 0)] [decide (6 = c), decide (7 = c), decide (8 = c)] := .cons (w.kit 6 (by decide)) (.cons (w.kit 7 (by decide)) (.cons (w.kit 8 (by decide)) (.nil)))
  have k4 : Kit K (wl.getD c 0) [.ref (wl.getD 9 0), .ref (wl.getD 10 0), .ref (wl.getD 11 0)] [decide (9 = c), decide (10 = c), decide (11 = c)] := .cons (w.kit 9 (by decide)) (.cons (w.kit 10 (by decide)) (.cons (w.kit 11 (by decide)) (.nil)))
  have k5 : Kit K (wl.getD c 0) [.ref (wl.getD 12 0), .ref (wl.getD 13 0)] [decide (12 = c), decide (13 = c)] := .cons (w.kit 12 (by decide)) (.cons (w.kit 13 (by decide)) (.nil))
  have hb : [decide (0 = c), decide (1 = c), decide (2 = c)] ++ [decide (3 = c), decide (4 = c), decide (5 = c)] ++ [decide (6 = c), decide (7 = c), decide (8 = c)] ++ [decide (9 = c), decide (10 = c), decide (11 = c)] ++ [decide (12 = c), decide (13 = c)] = (List.range 14).map fun i => decide (i = c) := by
    simp only [List.range, List.range.loop, List.map, List.cons_append, List.nil_append]
  have key := which_t (a := a) (H := H) (Q := Q) k1 k2 k3 k4 k5 hb w.lt w.ve q
  simp only [taIs] at key
  exact key
end
end G
end

section
set_option Elab.async false
set_option linter.all false
set_option backward.match.sparseCases false
set_option maxRecDepth 100000
/-! {x: True for x in ints} -/
namespace G
open L2 PySem PyProof.Rows PySem.Spec
section
variable {tp : Tp τ} {Ec : EC}
def sDc (it : SIg τ) (j : Nat) : SEg τ := fun s n => bindE (it s n) fun ds n1 => match intsD ds with
  | some ks => if ds.length < big ∧ j < s.length then .ok (.dct ks, n1) else .no
  | none => .no
theorem set_touch (σ : L2.St) (j : Nat) (x : Option V) : L2.wipe ((L2.wipe σ [j]).set j x) [j] = L2.wipe σ [j] := wipe_touch (Touch.set _ j x)
theorem sim_dc {wi : TI} {it : SIg τ} (j : Nat) (hi : SimI tp Ec wi it) : SimE tp Ec (tDc wi (gName j) tYes (tVar j) (tC (.bl true)) [j]) (sDc it j) := fun P s n σ H r Q hq =>
  hi P s n σ H r _ (hq.bind fun ds n1 J H1 r1 e1 hJ q1 => by
    intro Dl hD
    cases hks : intsD ds with
    | none => rw [hks] at q1; exact False.elim q1
    | some ks =>
      rw [hks] at q1
      have q1 : Post (Rp tp.K) tp Ec P s σ H1 (if ds.length < big ∧ j < s.length then .ok (.dct ks, n1) else .no) Q := q1
      by_cases hc : ds.length < big ∧ j < s.length
      · rw [if_pos hc] at q1
        obtain ⟨hbig, hj⟩ := hc
        have eds := intsD_eq hks
        have nP : Dl ∉ P := r1.fresh hD
        have nt : ¬ tp.gh Dl := fun z => r1.gn Dl z hD
        have nOw : ∀ (i : Nat) (es : List D), s[i]? = some (.ow es) → σ[i]? ≠ some (some (.ref Dl)) := fun i es h z => by
          obtain ⟨p, xs, g1, g2, _⟩ := r1.ow i es h
          rw [z] at g1
          cases g1
          exact nP g2
        have fzS : ∀ Hc, SameT tp H1 Hc → Same (Fz P H1) (Fz (Dl :: P) Hc) := fun Hc e a o h => by
          have h1 : a ∉ P := fun z => by
            rw [Fz_in z] at h
            cases h
          rw [Fz_out h1] at h
          have h2 : a ≠ Dl := ne_of_none h hD
          rw [Fz_out (by simp [h1, h2])]
          exact e a o (fun z => h1 (r1.gp a z).1) h
        have inDl : Dl ∈ Dl :: P := List.mem_cons_self
        refine ⟨fun i m Hc => i ≤ ds.length ∧ m = ds.length - i ∧ ∃ kvs : List (L2.Key × V), Rel tp (Dl :: P) s n1 σ Hc ∧ SameT tp H1 Hc ∧ Hc Dl = some (.dK kvs) ∧ kvs.length ≤ i ∧ ∀ k : Int, (valV kvs (Sum.inl k)).isSome = decide (k ∈ ks.take i),
          ⟨ds.length, Nat.zero_le _, rfl, [], ?_, Same.toT (same_new hD), upd_same, Nat.le_refl _, fun k => by simp [valV]⟩, fun i m Hc hw => ?_⟩
        · have := (r1.laid (xs := []) hD).updFree (o := .dK []) inDl nOw nt (fun xs z => by rw [upd_same] at z; cases z)
          rwa [upd_upd] at this
        · obtain ⟨hle, hm, kvs, r2, e2, hl, hkl, hk⟩ := hw
          obtain ⟨hgo, hstop⟩ := hJ (Dl :: P) Hc (fzS Hc e2) r2.pin
          by_cases hlt : i < ds.length
          · have hd : ds[i]? = some ds[i] := List.getElem?_eq_getElem hlt
            obtain ⟨go, yl⟩ := hgo i _ hd
            have hks2 : i < ks.length := by
              rw [eds, List.length_map] at hlt
              exact hlt
            have edi : ds[i] = .int ks[i] := by
              have : ds[i]? = some (.int ks[i]) := by
                rw [eds, List.getElem?_map, List.getElem?_eq_getElem hks2]
                rfl
              rw [hd] at this
              exact Option.some.inj this
            refine .inr ⟨go, fun H' => ∃ kvs : List (L2.Key × V), Rel tp (Dl :: P) s n1 σ H' ∧ SameT tp H1 H' ∧ H' Dl = some (.dK kvs) ∧ kvs.length ≤ i + 1 ∧ ∀ k : Int, (valV kvs (Sum.inl k)).isSome = decide (k ∈ ks.take (i + 1)), fun H' hN => ⟨ds.length - (i + 1), by omega, by omega, rfl, hN⟩, fun x H3 hy => ?_⟩
            obtain ⟨s3, rx⟩ := yl x H3 hy
            rw [edi] at rx
            cases rx.int_inv
            have l3 : H3 Dl = some (.dK kvs) := s3 _ _ hl
            have hjl : j < (L2.wipe σ [j]).length := by
              rw [wipe_length, ← r2.len]
              exact hj
            refine ⟨set_touch σ j _, ?_⟩
            unfold tYes
            dsimp only
            rw [if_pos rfl]
            refine ⟨.int ks[i], List.getElem?_set_self hjl, kvs, Sum.inl ks[i], rfl, l3, ?_, ?_⟩
            · exact Nat.lt_of_le_of_lt hkl (big_lt (by omega))
            · refine ⟨putK kvs (Sum.inl ks[i]) (.bl true), (r2.grow s3).updFree inDl nOw nt (fun xs z => by rw [s3 _ _ hl] at z; cases z), fun a o ha h => ?_, upd_same, ?_, fun k => ?_⟩
              · rw [upd_ne (ne_of_none h hD)]
                exact s3 _ _ (e2 a o ha h)
              · have := length_putK kvs (Sum.inl ks[i]) (.bl true)
                omega
              · rw [valV_put]
                have et : ks.take (i + 1) = ks.take i ++ [ks[i]] := by
                  rw [List.take_add_one, List.getElem?_eq_getElem hks2]
                  rfl
                rw [et]
                by_cases e : k = ks[i]
                · subst e
                  rw [if_pos rfl]
                  exact (decide_eq_true (List.mem_append_right _ List.mem_cons_self)).symm
                · have e' : ¬ ((Sum.inl k : L2.Key) = Sum.inl ks[i]) := fun z => e (Sum.inl.inj z)
                  rw [if_neg e', hk k]
                  exact decide_eq_decide.mpr ⟨fun h => List.mem_append_left _ h, fun h => (List.mem_append.mp h).elim id fun z => absurd (List.mem_singleton.mp z) e⟩
          · have ei : i = ds.length := by omega
            subst ei
            refine .inl ⟨hstop, q1 _ Hc (r2.join r1 hD) e2 (.dct (by rw [Fz_out nP]; exact hl) fun k => ?_)⟩
            rw [hk k, eds, List.length_map, List.take_length]
      · rw [if_neg hc] at q1
        exact False.elim q1)
end
end G
end

section
set_option Elab.async false
set_option linter.all false
set_option backward.match.sparseCases false
set_option maxRecDepth 100000
/-! [f, g][what](..) in a try -/
namespace G
open L2 PySem PyProof.Rows PySem.Spec
abbrev GF := List D → R D
def tPick (K : Frg) (mg : Str → Option Value) (fg : List (Addr × GF)) (tf : TE) (E : L2.St → XK) (t : TA) : TE := fun σ H Q => tf σ H fun v H1 => ∃ f g, v = .ref f ∧ (f, g) ∈ fg ∧ t σ H1 fun vs H2 => spP K mg g vs H2 Q (E σ)
/-- the def at f keeps g -/
def HeldX (X : Cx) (CX : CXT) (p : Addr × GF) : Prop := ∃ (k : Nat) (fd : FuncData) (ps : List Str), FnOk X.prog X.w X.K X.mg X.base CX k p.1 fd ps (spP X.K X.mg p.2) ∧ Room k X.A ∧ PySem.W.keepIn X.K (.ref p.1) = true ∧ Binds X.K fd ps []
theorem pe_pickS {X : Cx} {CX : CXT} {fg : List (Addr × GF)} {fe e : Expr} {es : List Expr} {tf : TE} {t : TA} {E : L2.St → XK} {pos : Pos} (hf : PE X fe tf) (A : ∀ p ∈ fg, HeldX X CX p) (hx : ∀ σ, PassesAt CX X σ (E σ)) (ha : PA X (e :: es) t)
    (hc : eval (.Call fe (e :: es) [] pos) X.env = (do callWith pos (← eval fe X.env) [] (backTo pos (starEach (e :: es) X.env)) (backToKw pos (keywordEach [] X.env))) := by rfl)
    (he : starEach (e :: es) X.env = (false, eval e X.env) :: starEach es X.env := by rfl) (hpl : (backTo pos (starEach es X.env)).any (·.1) = false := by rfl) : PE X (.Call fe (e :: es) [] pos) (tPick X.K X.mg fg tf E t) := by
  refine ⟨fun pins s σ H Q I h => ?_⟩
  refine Call_ (thn (hf.run pins s σ H _ I h) fun u s1 ⟨v, H1, I1, r1, q1⟩ => ?_) hc
  obtain ⟨f, g, rfl, hm, q⟩ := q1
  obtain ⟨k, fd, ps, F, hr, hk, hb⟩ := A _ hm
  cases r1
  refine PySem.W.callWith_K (h₀ := X.base) I.ok.mod.kin hk (thn (ha.run pos pins s1 σ _ _ I1 q) fun us s2 ⟨vs, H2, I2, r, q⟩ => ⟨I2.kIn, ?_⟩) he hpl
  exact run_fnS F hr hb (hx σ) I2 r q
def taR : List Addr → TA
  | [] => tNil
  | f :: fs => tCons (tC (.ref f)) (taR fs)
theorem taR_run {σ : L2.St} {H : Hp} : ∀ {fs : List Addr} {Q : List V → Hp → Prop}, Q (fs.map V.ref) H → taR fs σ H Q
  | [], _, q => q
  | f :: fs, Q, q => taR_run (fs := fs) (Q := fun xs H2 => Q (.ref f :: xs) H2) q
section
variable {tp : Tp τ} {mg : Str → Option Value} {tr : TA} {fr : SAg τ}
def sPick (i w : Nat) (gs : List GF) (fr : SAg τ) : SEg τ := fun s n => if i < s.length then (match s[w]? with
  | some (.im (.int k)) => match atI gs k with
    | some g => bindE (fr s n) fun xs n1 => match plain xs with
      | some ds => liftR (g ds) n1
      | none => .no
    | none => .no
  | _ => .no) else .no
theorem atI_map {α β : Type} (f : α → β) (xs : List α) (k : Int) : atI (xs.map f) k = (atI xs k).map f := by
  unfold atI
  rw [List.length_map]
  cases ixN xs.length k with
  | none => rfl
  | some j =>
    show (xs.map f)[j]? = (xs[j]?).map f
    rw [List.getElem?_map]
theorem atI_mem {α : Type} {xs : List α} {k : Int} {x : α} (h : atI xs k = some x) : x ∈ xs := by
  unfold atI at h
  cases e : ixN xs.length k with
  | none => rw [e] at h; cases h
  | some j =>
    rw [e] at h
    exact List.mem_of_getElem? h
theorem sim_pick {i w : Nat} {W : WX} {fg : List (Addr × GF)} (hlen : fg.length ≤ 1000) (hr : SimA tp (EcX mg i W) tr fr) : SimE tp (EcX mg i W) (tPick tp.K mg fg (tOp (rIx tp.K) (tLst (taR (fg.map Prod.fst))) (tVar w)) (WE W) tr) (sPick i w (fg.map Prod.snd) fr) := fun P s n σ H r Q hq => by
  unfold sPick at hq
  split at hq
  · rename_i hi
    split at hq
    · rename_i k hk
      obtain ⟨v, hv, rv⟩ := r.im w _ hk
      cases rv.int_inv
      rw [atI_map] at hq
      cases ea : atI fg k with
      | none => rw [ea] at hq; exact False.elim hq
      | some p =>
        rw [ea] at hq
        obtain ⟨f, g⟩ := p
        refine taR_run ⟨?_, fun l nl => ⟨.int k, hv, .inl ⟨l, (fg.map Prod.fst).map V.ref, k, .ref f, rfl, rfl, .inl (.inl upd_same), ?_, f, g, rfl, atI_mem ea, ?_⟩⟩⟩
        · rw [List.length_map, List.length_map]
          exact Nat.le_trans hlen (by decide)
        · rw [atI_map, atI_map, ea]
          rfl
        · have hq : Post (Rp tp.K) tp (EcX mg i W) P s σ H (bindE (fr s n) fun xs n1 => match plain xs with
            | some ds => liftR (g ds) n1
            | none => .no) Q := hq
          have hq2 : Post (Rp tp.K) tp (EcX mg i W) P s σ (L2.upd H l (.lst ((fg.map Prod.fst).map V.ref))) (bindE (fr s n) fun xs n1 => match plain xs with
            | some ds => liftR (g ds) n1
            | none => .no) Q := by
            revert hq
            generalize (bindE (fr s n) fun xs n1 => match plain xs with
              | some ds => liftR (g ds) n1
              | none => .no) = rr
            intro hq
            cases rr with
            | ok x => exact fun v H' hr' e' hv' => hq v H' hr' ((Same.toT (same_new nl)).trans e') hv'
            | ex c => exact fun H' e' => hq H' ((Same.toT (same_new nl)).trans e')
            | no => exact hq
          refine hr P s n σ _ (r.grow (same_new nl)) _ (hq2.bind fun xs n1 vs H1 r1 e1 rv q1 => ?_)
          cases e : plain xs with
          | none => rw [e] at q1; exact False.elim q1
          | some ds =>
            rw [e] at q1
            refine ⟨P, ds, r1.pin, plain_rp rv e, ?_⟩
            have q1 : Post (Rp tp.K) tp (EcX mg i W) P s σ H1 (liftR (g ds) n1) Q := q1
            cases eg : g ds with
            | ok d => rw [eg] at q1; exact fun v H' sm rd => q1.pure r1 sm rd
            | ex c =>
              rw [eg] at q1
              exact fun H' sm C hC => q1 H' (Same.toT sm) C hC σ (by rw [← r.len]; exact hi)
            | no => rw [eg] at q1; exact q1
    · exact False.elim hq
  · exact False.elim hq
end
end G
end

section
set_option Elab.async false
set_option linter.all false
set_option backward.match.sparseCases false
set_option maxRecDepth 100000
/-! sorted(xs) where xs is a list of tuples of ints, any number of any length but none empty -/
namespace G
open L2 PySem PyProof.Rows PySem.Spec PySem.W
section
variable {X : Cx} {pins : List (Addr × Obj)} {σ : L2.St} {H : Hp} {s : Shared} {K : Frg}
def IsRow (K : Frg) (H : Hp) (x : V) (ks : List Int) : Prop := ∃ t, x = .ref t ∧ SqT K H t (ks.map V.int)
def encR (ks : List Int) : PyData := .tuple (ks.map .int)
def rowLe (a b : List Int) : Bool := decide (a ≤ b)
/-- the order by items, by structure -/
def rowLe1 : List Int → List Int → Bool
  | [], _ => true
  | _ :: _, [] => false
  | a :: as, b :: bs => match ltI a b with
    | true => true
    | false => match ltI b a with
      | true => false
      | false => rowLe1 as bs
def insR (x : List Int) : List (List Int) → List (List Int)
  | [] => [x]
  | y :: ys => match rowLe1 x y with
    | true => x :: y :: ys
    | false => y :: insR x ys
def sortR : List (List Int) → List (List Int)
  | [] => []
  | x :: xs => insR x (sortR xs)
theorem rowLe1_eq : ∀ a b : List Int, rowLe1 a b = rowLe a b
  | [], b => by
    unfold rowLe
    simp [rowLe1]
  | _ :: _, [] => by
    unfold rowLe
    simp [rowLe1]
  | a :: as, b :: bs => by
    have ih := rowLe1_eq as bs
    unfold rowLe at ih ⊢
    show (match ltI a b with
      | true => true
      | false => match ltI b a with
        | true => false
        | false => rowLe1 as bs) = _
    rw [ltI_eq, ltI_eq, ih]
    by_cases h : a < b
    · rw [decide_eq_true h]
      exact (decide_eq_true (List.cons_le_cons_iff.mpr (.inl h))).symm
    · rw [decide_eq_false h]
      by_cases h2 : b < a
      · rw [decide_eq_true h2]
        refine (decide_eq_false fun z => ?_).symm
        rcases List.cons_le_cons_iff.mp z with y | y
        · exact h y
        · omega
      · rw [decide_eq_false h2]
        have e : a = b := by omega
        subst e
        refine decide_eq_decide.mpr ⟨fun z => List.cons_le_cons_iff.mpr (.inr ⟨rfl, z⟩), fun z => ?_⟩
        rcases List.cons_le_cons_iff.mp z with y | y
        · exact absurd y h
        · exact y.2
theorem rowLe_iff (a b : List Int) : rowLe a b = true ↔ a ≤ b := by
  unfold rowLe
  exact decide_eq_true_iff
theorem insR_perm (x : List Int) : ∀ l, (insR x l).Perm (x :: l)
  | [] => .refl _
  | y :: ys => by
    unfold insR
    split
    · exact .refl _
    · exact ((insR_perm x ys).cons y).trans (.swap x y ys)
theorem sortR_perm : ∀ l, (sortR l).Perm l
  | [] => .refl _
  | x :: xs => (insR_perm x _).trans ((sortR_perm xs).cons x)
theorem insR_sorted (x : List Int) : ∀ l, l.Pairwise (· ≤ ·) → (insR x l).Pairwise (· ≤ ·)
  | [], _ => List.pairwise_singleton ..
  | y :: ys, h => by
    obtain ⟨h1, h2⟩ := List.pairwise_cons.mp h
    unfold insR
    split
    · rename_i e
      rw [rowLe1_eq, rowLe_iff] at e
      refine List.pairwise_cons.mpr ⟨fun z hz => ?_, h⟩
      rcases List.mem_cons.mp hz with r | r
      · rw [r]
        exact e
      · exact List.le_trans e (h1 z r)
    · rename_i e
      rw [rowLe1_eq] at e
      have e : ¬ x ≤ y := fun z => by rw [(rowLe_iff x y).mpr z] at e; cases e
      refine List.pairwise_cons.mpr ⟨fun z hz => ?_, insR_sorted x ys h2⟩
      rcases List.mem_cons.mp ((insR_perm x ys).mem_iff.mp hz) with r | r
      · rw [r]
        exact (List.le_total x y).resolve_left e
      · exact h1 z r
theorem sortR_sorted : ∀ l, (sortR l).Pairwise (· ≤ ·)
  | [] => .nil
  | x :: xs => insR_sorted x _ (sortR_sorted xs)
theorem sortR_eq (kss : List (List Int)) : kss.mergeSort rowLe = sortR kss := by
  refine List.Perm.eq_of_pairwise (le := fun a b : List Int => a ≤ b) (fun a b _ _ h1 h2 => List.le_antisymm h1 h2) ?_ (sortR_sorted kss) ((List.mergeSort_perm kss rowLe).trans (sortR_perm kss).symm)
  refine (List.pairwise_mergeSort (le := rowLe) (fun a b c h1 h2 => ?_) (fun a b => ?_) kss).imp fun {a b} h => (rowLe_iff a b).mp h
  · exact (rowLe_iff a c).mpr (List.le_trans ((rowLe_iff a b).mp h1) ((rowLe_iff b c).mp h2))
  · rcases List.le_total a b with z | z
    · rw [(rowLe_iff a b).mpr z]
      rfl
    · rw [(rowLe_iff b a).mpr z, Bool.or_true]
theorem dataLe_tups : dataLe false encR = rowLe := by
  funext p q
  show (!dataLt (.tuple (q.map .int)) (.tuple (p.map .int))) = _
  rw [dataLt_tuple]
  show (!rowLt (q.map .int) (p.map .int)) = _
  rw [dataLt_ints]
  unfold rowLe
  by_cases h : q < p
  · have h' : ¬ p ≤ q := fun r => List.not_lt.mpr r h
    simp [h, h']
  · have h' : p ≤ q := List.not_lt.mp h
    simp [h, h']
/-- a new list of the same, in the order of tuples; T is what is known of the items -/
def rSortedT (K : Frg) : List V → Hp → VK → Prop := fun vs H Q => ∃ (a : Addr) (xs : List V) (kss : List (List Int)) (T : V → List Int → Prop), vs = [V.ref a] ∧ SqL K H a xs ∧ (∀ x ks, T x ks → IsRow K H x ks) ∧ EachIs T xs kss ∧ (∀ ks ∈ kss, ks ≠ []) ∧
  ∀ (ys : List V) (p : Addr), EachIs T ys (sortR kss) → H p = none → Q (.ref p) (upd H p (.lst ys))
theorem each_up {T : V → List Int → Prop} : ∀ {xs : List V} {us : List Value} {kss : List (List Int)}, Vals xs us → EachIs T xs kss → EachIs (fun u ks => ∃ x, RelV x u ∧ T x ks) us kss
  | [], _, _, rv, .nil => by
    cases rv
    exact .nil
  | x :: xs, _, _, rv, .cons h t => by
    cases rv with
    | cons r rv => exact .cons ⟨x, r, h⟩ (each_up rv t)
theorem each_down {T : V → List Int → Prop} : ∀ {us : List Value} {kss : List (List Int)}, EachIs (fun u ks => ∃ x, RelV x u ∧ T x ks) us kss → ∃ ys, Vals ys us ∧ EachIs T ys kss
  | _, _, .nil => ⟨[], .nil, .nil⟩
  | _, _, .cons ⟨x, r, h⟩ t => by
    obtain ⟨ys, h1, h2⟩ := each_down t
    exact ⟨x :: ys, .cons r h1, .cons h h2⟩
theorem depth_row (ks : List Int) : (encR ks).depth ≤ 1 := by
  unfold encR
  have := depth_ints ks
  simp [PyData.depth, this]
theorem cr_sortedT (hu : X.A.units + 65 < cLine) : CallR X (.builtin "sorted") (rSortedT X.K) := by
  intro pins s σ H vs us Q I r h
  obtain ⟨a, xs, kss, T, rfl, hs, hT, he, hne, q⟩ := h
  obtain ⟨its, rv, hl, hz⟩ := I.list hs
  rw [Vals.ref1 r]
  have e := each_up rv he
  have er : EachIs (fun v b => ∃ as, Reads s.heap v (encR b) as) its kss := e.mono fun u ks ⟨x, r, t⟩ => by
    obtain ⟨t, rfl, ht⟩ := hT x ks t
    exact Dp.reads I _ _ _ (.tup ht (dpA_ints H ks)) r
  have hlen : kss.length ≤ sizeLine := by
    rw [← he.length]
    exact hz
  refine sorted_data (enc := encR) hl.isList e er (AllAlike.of fun b b' => alike_ints b b') (.inl fun d hd => ?_) hlen (fun b hb => ?_) fun out ho hE => ?_
  · obtain ⟨ks, hk, rfl⟩ := List.mem_map.mp hd
    cases ks with
    | nil => exact absurd rfl (hne [] hk)
    | cons k ks => exact ⟨_, _, rfl⟩
  · have := depth_row b
    omega
  · rw [dataLe_tups, sortR_eq] at hE
    obtain ⟨ys, h1, h2⟩ := each_down hE
    obtain ⟨ep, he'⟩ := PyProof.Rows.sortedAll_at s.heap its out.toArray
    have hl2 : ys.length ≤ sizeLine := by
      rw [h1.length, ho]
      exact hlen
    exact ⟨.ref _, upd H (s.heap.objs.size + 1) (.lst ys), I.laid (t' := s.toks) (fun _ _ => PyProof.Rows.sortedAll_old) (Nat.le_succ _) ⟨hl2, out, ep, h1, he'⟩, rfl, q _ _ h2 (I.hok.fresh (Nat.le_succ _))⟩
abbrev rSort2 (K : Frg) : List V → Hp → VK → Prop := fun xs H Q => rSortedT K xs H Q ∨ rSortedI K xs H Q
theorem cr_sort2 (hu : X.A.units + 65 < cLine) : CallR X (.builtin "sorted") (rSort2 X.K) := (cr_sortedT hu).or cr_sortedI
def rowsD : List D → Option (List (List Int))
  | [] => some []
  | .tup es :: r => match intsD es with
    | some (k :: ks) => (rowsD r).map ((k :: ks) :: ·)
    | _ => none
  | _ => none
def rowD (ks : List Int) : D := .tup (ks.map D.int)
theorem rowsD_each {P : List Addr} {H : Hp} : ∀ {ds : List D} {kss : List (List Int)} {xs : List V}, rowsD ds = some kss → RpA K (Fz P H) xs ds → EachIs (fun x ks => Rp K (Fz P H) x (rowD ks)) xs kss ∧ ∀ ks ∈ kss, ks ≠ []
  | [], _, _, h, r => by
    cases h
    cases r
    exact ⟨.nil, fun _ h => absurd h (by simp)⟩
  | .tup es :: ds, kss, xs, h, r => by
    unfold rowsD at h
    cases r with
    | cons r1 r =>
      split at h
      · rename_i k ks e
        cases e2 : rowsD ds with
        | none => rw [e2] at h; cases h
        | some rest =>
          rw [e2] at h
          cases h
          obtain ⟨h1, h2⟩ := rowsD_each e2 r
          rw [intsD_eq e] at r1
          refine ⟨.cons r1 h1, fun q hq => ?_⟩
          rcases List.mem_cons.mp hq with z | z
          · rw [z]
            exact fun y => nomatch y
          · exact h2 q z
      · cases h
theorem each_rpA {P : List Addr} {H : Hp} : ∀ {xs : List V} {kss : List (List Int)}, EachIs (fun x ks => Rp K (Fz P H) x (rowD ks)) xs kss → RpA K (Fz P H) xs (kss.map rowD)
  | _, _, .nil => .nil
  | _, _, .cons h t => .cons h (each_rpA t)
def bSort2 (ds : List D) : Option D := match ds with
  | [.lst es] => match rowsD es with
    | some kss => some (.lst ((sortR kss).map rowD))
    | none => bSorted [.lst es]
  | _ => bSorted ds
theorem s_sort2 : CbS K (rSort2 K) bSort2 := fun P xs ds z H Q pin hx hg q => by
  unfold bSort2 at hg
  split at hg
  · rename_i es
    split at hg
    · rename_i kss hk
      cases hg
      cases hx with
      | cons h1 hx =>
        cases hx
        obtain ⟨a, ys, rfl, ha, hys⟩ := h1.lst_inv
        obtain ⟨e1, e2⟩ := rowsD_each hk hys
        refine .inl ⟨a, ys, kss, _, rfl, .inl (.inl (Fz_sub _ _ _ _ ha)), fun x ks hr => ?_, e1, e2, fun zs p hz np => new_lst pin (each_rpA hz) q np⟩
        obtain ⟨t, ws, rfl, ht, hws⟩ := hr.tup_inv
        rw [hws.ints_inv] at ht
        exact ⟨t, rfl, .inl (.inl (Fz_sub _ _ _ _ ht))⟩
    · exact .inr (s_sorted P xs _ z H Q pin hx hg q)
  · exact .inr (s_sorted P xs _ z H Q pin hx hg q)
end
end G
end

section
set_option Elab.async false
set_option linter.all false
set_option backward.match.sparseCases false
set_option maxRecDepth 100000
/-! an own list read as a whole where a tuple or a new list comes of it -/
namespace G
open L2 PySem PyProof.Rows PySem.Spec
mutual
def noL : D → Bool
  | .non => true
  | .bl _ => true
  | .int _ => true
  | .str _ => true
  | .tup ds => noLs ds
  | .lst _ => false
  | .scr _ => false
  | .dct _ => false
  | .dtb _ => false
  | .cli _ _ => false
def noLs : List D → Bool
  | [] => true
  | d :: ds => noL d && noLs ds
end
section
variable {tp : Tp τ} {mg : Str → Option Value} {P P1 P2 : List Addr} {s : SD} {n n' : τ} {σ : L2.St} {H H' : Hp} {K : Frg} {Ec : EC} {te : TE} {fe : SEg τ}
mutual
theorem Rp.nol {p : Addr} {ys : List V} (hs : ∀ a, a ∈ P2 → a ∈ P1 ∨ a = p) (hp : H p = some (.lst ys)) : ∀ {v : V} {d : D}, Rp K (Fz P1 H) v d → noL d = true → Rp K (Fz P2 H) v d
  | _, _, .non, _ => .non
  | _, _, .bl b, _ => .bl b
  | _, _, .int i, _ => .int i
  | _, _, .str x, _ => .str x
  | _, _, .lst _ _, c => by simp [noL] at c
  | _, _, .scr _, c => by simp [noL] at c
  | _, _, .dct _ _, c => by simp [noL] at c
  | _, _, .dtb _ _, c => by simp [noL] at c
  | _, _, .cli _ _ _ _ _, c => by simp [noL] at c
  | _, _, .tup (a := a) (ds := ds) h r, c => by
    have c : noLs ds = true := by simpa [noL] using c
    have h1 : a ∉ P1 := fun z => by rw [Fz_in z] at h; cases h
    have h2 := h
    rw [Fz_out h1] at h2
    have h3 : a ∉ P2 := fun z => by
      rcases hs a z with z | z
      · exact h1 z
      · rw [z, hp] at h2
        cases h2
    exact .tup (by rw [Fz_out h3]; exact h2) (RpA.nol hs hp r c)
theorem RpA.nol {p : Addr} {ys : List V} (hs : ∀ a, a ∈ P2 → a ∈ P1 ∨ a = p) (hp : H p = some (.lst ys)) : ∀ {vs : List V} {ds : List D}, RpA K (Fz P1 H) vs ds → noLs ds = true → RpA K (Fz P2 H) vs ds
  | _, _, .nil, _ => .nil
  | _, _, .cons h r, c => by
    simp only [noLs, Bool.and_eq_true] at c
    exact .cons (Rp.nol hs hp h c.1) (RpA.nol hs hp r c.2)
end
theorem Rel.frz1 (r : Rel tp P s n σ H) {i : Nat} {ds : List D} (hi : s[i]? = some (.ow ds)) : ∃ p xs, ¬ tp.gh p ∧ H p = some (.lst xs) ∧ Rel tp (P.filter fun a => decide (a ≠ p)) (s.set i (.im (.lst ds))) n σ H := by
  obtain ⟨p, xs, h1, h2, h3, h4⟩ := r.ow i ds hi
  have hil : i < s.length := (List.getElem?_eq_some_iff.mp hi).1
  have g1 := fun j => get_set s i (.im (.lst ds)) j hil
  have inP : ∀ a, a ∈ P.filter (fun a => decide (a ≠ p)) ↔ a ∈ P ∧ a ≠ p := fun a => by
    rw [List.mem_filter]
    simp
  have fe : Same (Fz P H) (Fz (P.filter fun a => decide (a ≠ p)) H) := Fz_less fun a h => ((inP a).mp h).1
  have notI : ∀ (j : Nat) (es : List D), (s.set i (.im (.lst ds)))[j]? = some (.ow es) → j ≠ i ∧ s[j]? = some (.ow es) := fun j es h => by
    rw [g1] at h
    split at h
    · cases h
    · exact ⟨‹_›, h⟩
  have ntp : ∀ a, tp.gh a → a ≠ p := fun a h z => by
    subst z
    exact (r.gp a h).2 i ds hi h1
  refine ⟨p, xs, fun z => ntp p z rfl, h3, by rw [List.length_set]; exact r.len, fun j d h => ?_, fun j es h => ?_, fun j k es fs q q1 q2 q3 q4 => ?_, fun j h => ?_, fun j k h => ?_, fun a h => ?_, tp.st n P _ H H r.iv (fun _ _ _ h => h) fe, fun a h => r.pin a ((inP a).mp h).1⟩
  · rw [g1] at h
    split at h
    · cases h
      rename_i z
      subst z
      refine ⟨_, h1, .lst ?_ (h4.mono fe)⟩
      rw [Fz_out fun z => ((inP p).mp z).2 rfl]
      exact h3
    · obtain ⟨v, q1, q2⟩ := r.im j d h
      exact ⟨v, q1, q2.mono fe⟩
  · obtain ⟨q1, q2⟩ := notI j es h
    obtain ⟨q, ys, e1, e2, e3, e4⟩ := r.ow j es q2
    refine ⟨q, ys, e1, (inP q).mpr ⟨e2, fun z => ?_⟩, e3, e4.mono fe⟩
    subst z
    exact q1 (r.inj j i es ds q q2 hi e1 h1)
  · exact r.inj j k es fs q (notI j es q1).2 (notI k fs q2).2 q3 q4
  · rw [g1] at h
    split at h
    · cases h
    · exact r.tw j h
  · rw [g1] at h
    split at h
    · cases h
    · exact r.gs j k h
  · obtain ⟨q1, q3⟩ := r.gp a h
    exact ⟨(inP a).mpr ⟨q1, ntp a h⟩, fun j es h' => q3 j es (notI j es h').2⟩
def sThawU (i : Nat) (fe : SEg τ) : SEg τ := fun s n => match s[i]? with
  | some (.ow ds) => bindE (fe (s.set i (.im (.lst ds))) n) fun d n1 => if noL d = true then .ok (d, n1) else .no
  | _ => .no
theorem inF {p a : Addr} : a ∈ P → a ∈ P.filter (fun a => decide (a ≠ p)) ∨ a = p := fun h => by
  by_cases z : a = p
  · exact .inr z
  · exact .inl (List.mem_filter.mpr ⟨h, decide_eq_true z⟩)
theorem sim_thawU (i : Nat) (he : SimE tp Ec te fe) (hpi : PInd tp := by first | exact pi0 | exact piT) : SimE tp Ec te (sThawU i fe) := fun P s n σ H r Q hq => by
  unfold sThawU at hq
  cases e : s[i]? with
  | none => rw [e] at hq; exact False.elim hq
  | some x =>
    rw [e] at hq
    cases x with
    | ow ds =>
      obtain ⟨p, xs, tpn, hp, r0⟩ := r.frz1 e
      refine he _ _ n σ H r0 Q ?_
      dsimp only at hq
      cases er : fe (s.set i (.im (.lst ds))) n with
      | ok x =>
        rw [er] at hq
        intro v H' r' e' hv
        have hq : Post (Rp tp.K) tp Ec P s σ H (if noL x.1 = true then .ok (x.1, x.2) else .no) Q := hq
        split at hq
        · exact hq v H' (r.keep e' (hpi _ _ _ _ r'.tpv) r'.gn) e' (hv.nol (fun a => inF) (e' p _ tpn hp) ‹_›)
        · exact False.elim hq
      | ex c =>
        rw [er] at hq
        exact hq
      | no =>
        rw [er] at hq
        exact hq
    | un => exact False.elim hq
    | im _ => exact False.elim hq
    | gh _ => exact False.elim hq
    | tw => exact False.elim hq
theorem Rel.more (r : Rel tp P s n σ H) {p : Addr} {o : HO} (e : SameT tp H H') (ht : ∀ P, tp.inv n' P H') (hg : ∀ a, tp.gh a → Pn (H' a)) (np : H p = none) (hp : H' p = some o) (ho : ∀ xs, o ≠ .tup xs := by intro xs z; cases z) : Rel tp (p :: P) s n' σ H' := by
  have r2 : Rel tp P s n' σ H' := r.keep e (ht P) hg
  have sm : Same (Fz P H) (Fz (p :: P) H') := fun a o h => by
    have h1 : a ∉ P := fun z => by rw [Fz_in z] at h; cases h
    rw [Fz_out h1] at h
    have h2 : a ∉ p :: P := fun z => by
      rcases List.mem_cons.mp z with z | z
      · rw [z, np] at h; cases h
      · exact h1 z
    rw [Fz_out h2]
    exact e a o (fun z => h1 (r.gp a z).1) h
  refine ⟨r.len, fun j d h => ?_, fun j es h => ?_, r.inj, r.tw, r.gs, fun a h => ?_, ht _, fun a h => ?_⟩
  · obtain ⟨v, q1, q2⟩ := r.im j d h
    exact ⟨v, q1, q2.mono sm⟩
  · obtain ⟨q, ys, e1, e2, e3, e4⟩ := r.ow j es h
    refine ⟨q, ys, e1, List.mem_cons_of_mem _ e2, e q _ (fun z => (r.gp q z).2 j es h e1) e3, e4.mono sm⟩
  · obtain ⟨q1, q3⟩ := r2.gp a h
    exact ⟨List.mem_cons_of_mem _ q1, q3⟩
  · rcases List.mem_cons.mp h with z | z
    · rw [z, hp]
      exact Pn.of rfl ho
    · exact r2.pin a z
def nThaw (i : Nat) (fn : SNg τ) : SNg τ := fun s n => match s[i]? with
  | some (.ow ds) => bindE (fn (s.set i (.im (.lst ds))) n) fun d n1 => if noLs d = true then .ok (d, n1) else .no
  | _ => .no
theorem sim_nThaw (i : Nat) {fn : SNg τ} (he : SimN tp Ec te fn) (hpi : PInd tp := by first | exact pi0 | exact piT) : SimN tp Ec te (nThaw i fn) := fun P s n σ H r Q hq => by
  unfold nThaw at hq
  cases e : s[i]? with
  | none => rw [e] at hq; exact False.elim hq
  | some x =>
    rw [e] at hq
    cases x with
    | ow ds =>
      obtain ⟨p, xs, tpn, hp, r0⟩ := r.frz1 e
      refine he _ _ n σ H r0 Q ?_
      dsimp only at hq
      cases er : fn (s.set i (.im (.lst ds))) n with
      | ok x =>
        rw [er] at hq
        intro q zs H' r' e' nq hq' hv
        have hq : PostN tp Ec P s σ H (if noLs x.1 = true then .ok (x.1, x.2) else .no) Q := hq
        split at hq
        · refine hq q zs H' (r.more e' (fun P => hpi _ _ _ _ r'.tpv) r'.gn nq hq') e' nq hq' (hv.nol (p := p) (fun a h => ?_) (e' p _ tpn hp) ‹_›)
          rcases List.mem_cons.mp h with z | z
          · exact .inl (z ▸ List.mem_cons_self)
          · rcases inF (p := p) z with y | y
            · exact .inl (List.mem_cons_of_mem _ y)
            · exact .inr y
        · exact False.elim hq
      | ex c =>
        rw [er] at hq
        exact hq
      | no =>
        rw [er] at hq
        exact hq
    | un => exact False.elim hq
    | im _ => exact False.elim hq
    | gh _ => exact False.elim hq
    | tw => exact False.elim hq
end
end G
end

section
set_option Elab.async false
set_option linter.all false
set_option backward.match.sparseCases false
set_option maxRecDepth 100000
/-! xs[i] += v for an own list; a def that calls itself -/
namespace G
open L2 PySem PyProof.Rows PySem.Spec
/-- where nothing is said, nothing is to be shown -/
theorem fnNo {Pr : Program} {w : World} {K : Frg} {mg : Str → Option Value} {base : Heap} {k : Nat} {f : Addr} {fd : FuncData} {ps : List Str} {CX : CXT} : FnOk Pr w K mg base CX k f fd ps (spP K mg fun _ => .no) :=
  ⟨fun vs H Q E h => by obtain ⟨_, _, _, _, h⟩ := h; exact False.elim h, fun A outer s H args us vs Q E _ _ _ _ h => by obtain ⟨_, _, _, _, h⟩ := h; exact False.elim h⟩
theorem get_list {X : Cx} : PGet X (rIxL X.K) := by
  intro pins s σ H x y v u Q I rx ry h
  obtain ⟨p, xs, i, z, rfl, rfl, hq, he, q⟩ := h
  cases rx
  obtain ⟨t, rfl⟩ := ry
  obtain ⟨its, r, pl, hz⟩ := I.list hq
  obtain ⟨j, h1, h2, h3, h4, h5⟩ := atI_get he
  obtain ⟨w, ew, rw'⟩ := r.get h2
  have hl := r.length
  have hn := line63
  have fin : EP X pins σ Q w s := ⟨z, H, I, rw', q⟩
  by_cases h0 : 0 ≤ i
  · have hj : i.toNat = j := by
      rw [seqIndex_of h0 h5] at h1
      exact Option.some.inj h1
    exact wpAny_getItem_list pl.isList h0 (by omega) (by rw [hj]; simpa using ew) fin
  · have hj : (i + (its.toArray.size : Int)).toNat = j := by
      rw [seqIndex_neg (by omega) h4] at h1
      rw [List.size_toArray, ← hl]
      exact Option.some.inj h1
    exact wpAny_getItem_list_neg pl.isList (by omega) (by rw [List.size_toArray] <;> omega) (by omega) (by rw [hj]; simpa using ew) fin
section
variable {tp : Tp τ} {mg : Str → Option Value} {Ec : EC} {te ti : TE} {fe fi : SEg τ}
def sAugIx (i : Nat) (fi fe : SEg τ) : SSg τ := fun s n => match s[i]? with
  | some (.ow ds) => bindS (fi s n) fun k n1 => match k with
    | .int k => match ixN ds.length k with
      | some j => match ds[j]? with
        | some (.int a) => bindS (fe s n1) fun d n2 => match d with
          | .int b => .nx (s.set i (.ow (ds.set j (.int (a + b))))) n2
          | _ => .no
        | _ => .no
      | none => .no
    | _ => .no
  | _ => .no
theorem sim_augIx (i : Nat) (hi : SimE tp Ec ti fi) (he : SimE tp Ec te fe) : SimS tp Ec (tAugS (tVar i) ti te (rIxL tp.K) (ipI fun i j => i + j) rSetL) (sAugIx i fi fe) := fun B P0 P s n σ H b L hq => by
  unfold sAugIx at hq
  split at hq
  · rename_i ds e
    obtain ⟨p, xs, h1, h2, h3, h4⟩ := b.owAt e
    refine ⟨.ref p, h1, hi P s n σ H b.rel _ (PostS.bind b hq fun k n1 w H1 b1 e1 r1 q1 => ?_)⟩
    split at q1
    · rename_i k
      split at q1
      · rename_i j ej
        split at q1
        · rename_i a ea
          obtain ⟨p', ys, g1, g2, g3, g4⟩ := b1.owAt e
          rw [h1] at g1
          cases g1
          obtain ⟨z, hz, rz⟩ := g4.get ea
          cases rz.int_inv
          refine ⟨p, ys, k, .int a, rfl, r1.int_inv, .inl (.inl g3), ?_, ?_⟩
          · unfold atI
            rw [g4.length, ej]
            exact hz
          · refine he P s n1 σ H1 b1.rel _ (PostS.bind b1 q1 fun d n2 v H2 b2 e2 r2 q2 => ?_)
            split at q2
            · rename_i c
              obtain ⟨p', zs, f1, f2, f3, f4⟩ := b2.owAt e
              rw [h1] at f1
              cases f1
              exact ⟨a, c, rfl, r2.int_inv, p, zs, k, j, rfl, r1.int_inv, f3, by rw [f4.length]; exact ej, q2 P σ _ (b2.updOw e h1 (f4.set (.int (a + c)) j))⟩
            · exact False.elim q2
        · exact False.elim q1
      · exact False.elim q1
    · exact False.elim q1
  · exact False.elim hq
end
end G
end

section
set_option Elab.async false
set_option linter.all false
set_option backward.match.sparseCases false
set_option maxRecDepth 100000
/-! sorted(set(xs)) where xs is a list of less than 64 tuples of ints, of any lengths, none empty -/
namespace G
open L2 PySem PyProof.Rows PySem.Spec PySem.W
section
variable {P : Program} {w : World} {A : Around} {E : Value → Shared → Prop} {s : Shared}
theorem readsInts {h : Heap} : ∀ {vs : List Value} {k : List Int}, IntsAre vs k → ReadsAll h vs (k.map PyData.int) []
  | _, _, .nil => .nil
  | _, _, .cons n t r => ReadsAll.cons (as := []) (bs := []) (Reads.int n t) (readsInts r)
theorem readsT {h : Heap} {k : List Int} {b : Addr} (x : L2.IsT P w h k b) : Reads h (.ref b) (encR k) [] := by
  obtain ⟨o, items, n, ho, hc, hd, hi⟩ := x
  exact .tuple ho hc hd (readsInts (ints_of_items hi))
theorem each_self {α : Type} {f : α → Value} {R : Value → α → Prop} : ∀ l : List α, (∀ q ∈ l, R (f q) q) → EachIs R (l.map f) l
  | [], _ => .nil
  | q :: l, h => .cons (h q List.mem_cons_self) (each_self l fun r hr => h r (List.mem_cons_of_mem _ hr))
theorem each_out {α : Type} {f : α → Value} {L : List α} : ∀ {out : List Value} {l : List α}, EachIs (fun v q => v = f q ∧ q ∈ L) out l → out = l.map f ∧ ∀ q ∈ l, q ∈ L
  | _, _, .nil => ⟨rfl, fun q h => by cases h⟩
  | _, _, .cons h t => by
    obtain ⟨e, h2⟩ := each_out t
    refine ⟨by rw [List.map_cons, ← h.1, ← e], fun r hr => ?_⟩
    rcases List.mem_cons.mp hr with z | z
    · rw [z]
      exact h.2
    · exact h2 r z
theorem sorted_setR {a : Addr} {L : List (Addr × List Int)} {es : Array (Int × Value)} {ep : Nat} {t : SetTable} {Q : Value → Shared → Prop} (R : SetTR P w s.heap a L es ep t) (hh : A.handled = none) (hu : A.units + 65 < cLine) (hne : ∀ q ∈ L, q.2 ≠ [])
    (hQ : ∀ s' p (out : Array Value) (c : Nat) (L' : List (Addr × List Int)), (∀ b o, s.heap.get? b = some o → s'.heap.get? b = some o) → s'.gens = s.gens → s'.os = s.os → s.heap.objs.size ≤ p →
      s'.heap.get? p = some (seqObj "list" out c) → out.toList = L'.map (fun q => Value.ref q.1) → (∀ q ∈ L', q ∈ L) → L'.length < 64 → L'.map (·.2) = sortR (L.map (·.2)) → Q (.ref p) s') :
    wpAny (model P w) A (call (.builtin "sorted") [.ref a]) Q E s := by
  obtain ⟨o, ho, hex, hd⟩ := R.ob
  have hsz := R.size
  have hfew := R.few
  refine Calls.call_function_entry kind_sorted plain_sorted entry_sorted (args_sorted1 _) ?_
  unfold Builtin.«sorted»
  refine wpAny_bind (m := checkCount "sorted" 1 1 _) (wpAny_pure ?_)
  refine wpAny_bind (collect_set (A := A.in1) hh ⟨o, ho, hex.1, hd⟩ R.fits (by unfold scanBound; omega) R.tab.ris R.led fun s1 vs k1 hz g1 o1 pm => ?_)
  have hes : es.toList.map (·.2) = L.map fun q => Value.ref q.1 := by
    rw [R.rows]
    unfold L2.rowsOf
    rw [List.map_map] <;> rfl
  rw [hes] at pm
  have ord : ∀ vs : List Value, (∀ v ∈ vs, ∃ q ∈ L, v = Value.ref q.1) → ∃ L1 : List (Addr × List Int), vs = L1.map (fun q => Value.ref q.1) ∧ ∀ q ∈ L1, q ∈ L := by
    intro vs
    induction vs with
    | nil => intro _; exact ⟨[], rfl, fun q hq => (by cases hq)⟩
    | cons v vs ih =>
      intro hv
      obtain ⟨q, hq, e⟩ := hv v List.mem_cons_self
      obtain ⟨L1, e1, hs⟩ := ih fun u hu => hv u (List.mem_cons_of_mem _ hu)
      refine ⟨q :: L1, by rw [List.map_cons, e, e1], fun r hr => ?_⟩
      rcases List.mem_cons.mp hr with z | z
      · rw [z]; exact hq
      · exact hs r z
  have one : ∀ q ∈ L, ∀ r ∈ L, q.1 = r.1 → q = r := fun q hq r hr e => by
    have a1 := R.tup q hq
    have a2 := R.tup r hr
    rw [e] at a1
    have e2 : q.2 = r.2 := a1.inj a2
    exact Prod.ext e e2
  have perm_of : ∀ L1 : List (Addr × List Int), (∀ q ∈ L1, q ∈ L) → (L1.map (fun q => Value.ref q.1)).Perm (L.map fun q => Value.ref q.1) → L1.Perm L := by
    intro L1 hs pm1
    have nL : L.Nodup := nodup_of_map R.nd
    have nref : (L.map fun q => Value.ref q.1).Nodup := by
      refine List.pairwise_map.mpr (List.Pairwise.imp_of_mem (fun {q r} hq hr hne e => ?_) nL)
      injection e with e
      exact hne (one q hq r hr e)
    have n1 : L1.Nodup := nodup_of_map (pm1.nodup_iff.mpr nref)
    refine (List.perm_ext_iff_of_nodup n1 nL).mpr fun q => ⟨hs q, fun hq => ?_⟩
    have hm : Value.ref q.1 ∈ L1.map (fun q => Value.ref q.1) := pm1.mem_iff.mpr (List.mem_map.mpr ⟨q, hq, rfl⟩)
    obtain ⟨r, hr, e⟩ := List.mem_map.mp hm
    injection e with e
    rw [← one r (hs r hr) q hq e]
    exact hr
  have hvl : vs.length < 64 := by rw [pm.length_eq, List.length_map]; exact hfew
  obtain ⟨L1, e1, hs1⟩ := ord vs fun v hv => by
    obtain ⟨q, hq, e⟩ := List.mem_map.mp (pm.mem_iff.mp hv)
    exact ⟨q, hq, e.symm⟩
  have pL1 : L1.Perm L := perm_of L1 hs1 (by rw [← e1]; exact pm)
  refine wpAny_bind (wpAny_newList ?_ (by rw [sizeLine_eq]; omega))
  have hoL : (s1.heap.push (seqObj "list" vs.toArray 0)).get? s1.heap.objs.size = some (seqObj "list" vs.toArray 0) := Heap.get?_push_size _ rfl
  have rd : ∀ q ∈ L, Reads (s1.heap.push (seqObj "list" vs.toArray 0)) (.ref q.1) (encR q.2) [] := fun q hq => readsT (P := P) (w := w) (isT_keep (R.tup q hq) fun b u e => Heap.get?_push_of_some _ (k1 b u e))
  refine wpAny_bind (wpAny_holding (list_sort_data (s := { s1 with heap := s1.heap.push (seqObj "list" vs.toArray 0) }) (vs := vs) (bs := L1) (enc := fun q => encR q.2) (R := fun v q => v = Value.ref q.1 ∧ q ∈ L) hoL (by
    rw [e1]
    exact each_self L1 fun q hq => ⟨rfl, hs1 q hq⟩) (by
    rw [e1]
    rw [e1] at rd
    exact each_self L1 fun q hq => ⟨[], rd q (hs1 q hq), fun h => by cases h⟩) (AllAlike.of fun b b' => alike_ints b.2 b'.2) (.inl fun d hd => ?_) (by rw [pL1.length_eq, sizeLine_eq]; omega) (fun b hb => ?_) fun out ho hE => ?_))
  · obtain ⟨q, hq, rfl⟩ := List.mem_map.mp hd
    have := hne q (hs1 q hq)
    obtain ⟨q1, q2⟩ := q
    cases q2 with
    | nil => exact absurd rfl this
    | cons k ks => exact ⟨_, _, rfl⟩
  · have := depth_row b.2
    show A.units + 1 + 1 + (encR b.2).depth < cLine
    omega
  obtain ⟨c, hc⟩ := sortedHeap_at (vs := vs) (out := out.toArray) hoL
  have hle : dataLe false (fun q : Addr × List Int => encR q.2) = fun p q => rowLe p.2 q.2 := by
    funext p q
    show dataLe false encR p.2 q.2 = _
    rw [dataLe_tups]
  rw [hle] at hE
  obtain ⟨e', hs'⟩ := each_out hE
  have pm2 := List.mergeSort_perm L1 fun p q : Addr × List Int => rowLe p.2 q.2
  have srt : ((L1.mergeSort fun p q => rowLe p.2 q.2).map (·.2)) = sortR (L.map (·.2)) := by
    refine List.Perm.eq_of_pairwise (le := fun a b : List Int => a ≤ b) (fun a b _ _ h1 h2 => List.le_antisymm h1 h2) (List.pairwise_map.mpr ?_) (sortR_sorted _) (((pm2.trans pL1).map _).trans (sortR_perm _).symm)
    refine (List.pairwise_mergeSort (le := fun p q : Addr × List Int => rowLe p.2 q.2) (fun a b c h1 h2 => ?_) (fun a b => ?_) L1).imp fun {a b} h => (rowLe_iff a.2 b.2).mp h
    · exact (rowLe_iff a.2 c.2).mpr (List.le_trans ((rowLe_iff a.2 b.2).mp h1) ((rowLe_iff b.2 c.2).mp h2))
    · rcases List.le_total a.2 b.2 with z | z
      · rw [(rowLe_iff a.2 b.2).mpr z]
        rfl
      · rw [(rowLe_iff b.2 a.2).mpr z, Bool.or_true]
  refine wpAny_pure ⟨_, rfl, hQ _ s1.heap.objs.size out.toArray c _ (fun b u e => ?_) g1 o1 hz hc e' hs' (by rw [(pm2.trans pL1).length_eq]; exact hfew) srt⟩
  have q := k1 b u e
  have hlt := Heap.lt_size q
  show (sortedHeap (s1.heap.push (seqObj "list" vs.toArray 0)) s1.heap.objs.size vs out.toArray).get? b = some u
  rw [sortedHeap_old (Nat.ne_of_lt hlt) (by rw [size_push']; exact Nat.lt_succ_of_lt hlt)]
  exact Heap.get?_push_of_some _ q
end
section
variable {X : Cx}
def rSortSetT (K : Frg) (P : Program) (w : World) : List V → Hp → VK → Prop := fun vs H Q => ∃ (a : Addr) (L : List (Addr × List Int)), vs = [V.ref a] ∧ H a = some (SetTO P w a L) ∧ (∀ p ∈ L, SqT K H p.1 (p.2.map V.int)) ∧ (∀ p ∈ L, p.2 ≠ []) ∧
  ∀ (L' : List (Addr × List Int)) (p : Addr), (L.map (·.2)).Nodup → (∀ q ∈ L', q ∈ L) → L'.map (·.2) = sortR (L.map (·.2)) → H p = none → Q (.ref p) (upd H p (.lst (L'.map fun q => V.ref q.1)))
theorem cr_sortSetT (hc : X.calm = true) (hu : X.A.units + 65 < cLine) : CallR X (.builtin "sorted") (rSortSetT X.K X.prog X.w) := by
  intro pins s σ H vs us Q I r h
  obtain ⟨a, L, rfl, ha, hk, hne, q⟩ := h
  have R0 : SetT0 X.prog X.w s.heap a L := (I.hok a _ ha).1
  obtain ⟨es, ep, t, R⟩ := R0.full fun p hp => I.isT (hk p hp)
  rw [Vals.ref1 r]
  refine sorted_setR R (I.ok.hd hc) hu hne fun s' p out c L' k g o hp hg hout hs' hfew srt => ?_
  have hlen : (L'.map fun q => V.ref q.1).length ≤ sizeLine := by rw [List.length_map, sizeLine_eq]; omega
  have hn : H p = none := I.hok.fresh hp
  have hv : Vals (L'.map fun q => V.ref q.1) out.toList := by rw [hout]; exact vals_of_refs L'
  have J : Inv X pins σ (upd H p (.lst (L'.map fun q => V.ref q.1))) { s with heap := s'.heap, gens := s'.gens, drawn := s'.drawn, toks := s'.toks } :=
    I.call (ch := []) (Un.laid k hp hn) (I.hok.laid k hp ⟨hlen, out.toList, c, hv, hg⟩) (by rw [g]; exact I.bare) (fun _ z => nomatch z)
  have e : s' = { s with heap := s'.heap, gens := s'.gens, drawn := s'.drawn, toks := s'.toks } := by
    cases s'
    cases s
    cases o
    rfl
  rw [e]
  exact ⟨.ref p, _, J, rfl, q L' p R.nd hs' srt hn⟩
end
/-- each but once -/
def dedR : List (List Int) → List (List Int)
  | [] => []
  | x :: xs => if (dedR xs).contains x then dedR xs else x :: dedR xs
theorem dedR_mem (k : List Int) : ∀ l, k ∈ dedR l ↔ k ∈ l
  | [] => Iff.rfl
  | x :: xs => by
    have ih := dedR_mem k xs
    unfold dedR
    split
    · rename_i h
      rw [ih, List.mem_cons]
      constructor
      · exact .inr
      · rintro (rfl | h2)
        · exact (dedR_mem _ xs).mp (by simpa using h)
        · exact h2
    · rw [List.mem_cons, List.mem_cons, ih]
theorem dedR_nodup : ∀ l, (dedR l).Nodup
  | [] => .nil
  | x :: xs => by
    unfold dedR
    split
    · exact dedR_nodup xs
    · rename_i h
      exact List.nodup_cons.mpr ⟨fun z => h (by simpa using z), dedR_nodup xs⟩
theorem sortR_perm_eq {l l' : List (List Int)} (h : l.Perm l') : sortR l = sortR l' :=
  List.Perm.eq_of_pairwise (le := fun a b : List Int => a ≤ b) (fun a b _ _ h1 h2 => List.le_antisymm h1 h2) (sortR_sorted _) (sortR_sorted _) ((sortR_perm _).trans (h.trans (sortR_perm _).symm))
def sSortSetT (fe : SEg τ) : SEg τ := fun s n => bindE (fe s n) fun d n1 => match d with
  | .lst es => match rowsD es with
    | some kss => if kss.length < 64 then .ok (.lst ((sortR (dedR kss)).map rowD), n1) else .no
    | none => .no
  | _ => .no
theorem rows_keys {K : Frg} {F : Hp} : ∀ {xs : List V} {kss : List (List Int)}, EachIs (fun x ks => Rp K F x (rowD ks)) xs kss → ∃ ks : List (Addr × List Int), xs = ks.map (fun p => V.ref p.1) ∧ kss = ks.map (·.2) ∧ ∀ p ∈ ks, F p.1 = some (.tup (p.2.map V.int))
  | _, _, .nil => ⟨[], rfl, rfl, fun p h => by cases h⟩
  | _, _, .cons h t => by
    obtain ⟨ks, e1, e2, h3⟩ := rows_keys t
    obtain ⟨a, ws, rfl, ha, hws⟩ := h.tup_inv
    rw [hws.ints_inv] at ha
    refine ⟨(a, _) :: ks, by rw [e1]; rfl, by rw [e2]; rfl, fun p hp => ?_⟩
    rcases List.mem_cons.mp hp with z | z
    · rw [z]
      exact ha
    · exact h3 p z
theorem rpA_keys {K : Frg} {F : Hp} : ∀ {ks : List (Addr × List Int)}, (∀ p ∈ ks, F p.1 = some (.tup (p.2.map V.int))) → RpA K F (ks.map fun p => V.ref p.1) ((ks.map (·.2)).map rowD)
  | [], _ => .nil
  | p :: ks, h => .cons (.tup (h p List.mem_cons_self) (RpA.ints _)) (rpA_keys fun q hq => h q (List.mem_cons_of_mem _ hq))
theorem sim_sortSetT {tp : Tp τ} {Ec : EC} {te : TE} {fe : SEg τ} {Pr : Program} {w : World} (he : SimE tp Ec te fe) : SimE tp Ec (tCB (rSortSetT tp.K Pr w) (tCons (tCB (rSetOfT tp.K Pr w) (tCons te tNil)) tNil)) (sSortSetT fe) := fun P s n σ H r Q hq =>
  he P s n σ H r _ (hq.bind fun d n1 v H1 r1 e1 rv q1 => by
    cases d with
    | lst es =>
      have q1 : Post (Rp tp.K) tp Ec P s σ H1 (match rowsD es with
        | some kss => if kss.length < 64 then .ok (.lst ((sortR (dedR kss)).map rowD), n1) else .no
        | none => .no) Q := q1
      cases e : rowsD es with
      | none => rw [e] at q1; exact False.elim q1
      | some kss =>
        rw [e] at q1
        have q1 : Post (Rp tp.K) tp Ec P s σ H1 (if kss.length < 64 then .ok (.lst ((sortR (dedR kss)).map rowD), n1) else .no) Q := q1
        split at q1
        · rename_i hb
          obtain ⟨a, ys, rfl, ha, hys⟩ := rv.lst_inv
          obtain ⟨f1, f2⟩ := rowsD_each e hys
          obtain ⟨ks, rfl, rfl, hk⟩ := rows_keys f1
          have hk1 : ∀ p ∈ ks, H1 p.1 = some (.tup (p.2.map V.int)) := fun p hp => Fz_sub _ _ _ _ (hk p hp)
          refine ⟨a, ks, rfl, .inl (.inl (Fz_sub _ _ _ _ ha)), fun p hp => .inl (.inl (hk1 p hp)), by rw [List.length_map] at hb; exact hb, fun b L hp hL1 hL2 => ⟨b, L, rfl, upd_same, fun p hpL => .inl (.inl ((same_new hp) _ _ (hk1 p (hL1 p hpL)))), fun p hpL => f2 _ (List.mem_map.mpr ⟨p, hL1 p hpL, rfl⟩), fun L' p2 hnd hs' srt hp2 => ?_⟩⟩
          have em : sortR (L.map (·.2)) = sortR (dedR (ks.map (·.2))) := sortR_perm_eq ((List.perm_ext_iff_of_nodup hnd (dedR_nodup _)).mpr fun k => by
            rw [dedR_mem]
            constructor
            · intro hm
              obtain ⟨p, hp, rfl⟩ := List.mem_map.mp hm
              exact List.mem_map.mpr ⟨p, hL1 p hp, rfl⟩
            · intro hm
              obtain ⟨p, hp, rfl⟩ := List.mem_map.mp hm
              exact hL2 p hp)
          rw [← em, ← srt] at q1
          have sm := (same_new (o := SetTO Pr w b L) hp).trans (same_new (o := .lst (L'.map fun q => V.ref q.1)) hp2)
          exact q1.pure r1 sm (.lst (fz_new (fun a h => by
            by_cases e : a = b
            · subst e
              exact absurd hp (r1.pin a h).ne
            · rw [upd_ne e]
              exact r1.pin a h) hp2) (rpA_keys fun p hp => Fz_mono sm _ _ (hk p (hL1 p (hs' p hp)))))
        · exact False.elim q1
    | _ => exact False.elim q1)
end G
end

section
set_option Elab.async false
set_option linter.all false
set_option backward.match.sparseCases false
set_option maxRecDepth 100000
/-! xs.index(k) of a list of ints -/
namespace G
open L2 PySem PyProof.Rows PySem.Spec PySem.W
def idxI : List Int → Int → Option Nat
  | [], _ => none
  | a :: ns, k => match decide (a = k) with
    | true => some 0
    | false => (idxI ns k).map (· + 1)
theorem idxI_at : ∀ {ns : List Int} {k : Int} {j : Nat}, idxI ns k = some j → ns[j]? = some k ∧ ∀ (m : Nat) (z : Int), m < j → ns[m]? = some z → z ≠ k
  | [], _, _, h => by cases h
  | a :: ns, k, j, h => by
    unfold idxI at h
    by_cases e : a = k
    · rw [decide_eq_true e] at h
      cases h
      exact ⟨by rw [e]; rfl, fun m z hm => by omega⟩
    · rw [decide_eq_false e] at h
      cases e2 : idxI ns k with
      | none => rw [e2] at h; cases h
      | some i =>
        rw [e2] at h
        cases h
        obtain ⟨h1, h2⟩ := idxI_at e2
        refine ⟨by simpa using h1, fun m z hm hz => ?_⟩
        cases m with
        | zero =>
          have : a = z := by simpa using hz
          rw [← this]
          exact e
        | succ m =>
          have hm : m + 1 < i + 1 := hm
          exact h2 m z (by omega) (by simpa using hz)
def sIndex (fo fe : SEg τ) : SEg τ := fun s n => bindE (fo s n) fun x n1 => match x with
  | .lst ds => bindE (fe s n1) fun y n2 => match y with
    | .int k => match intsD ds with
      | some ns => match idxI ns k with
        | some j => .ok (.int (j : Int), n2)
        | none => .no
      | none => .no
    | _ => .no
  | _ => .no
theorem sim_index {tp : Tp τ} {Ec : EC} {to te : TE} {fo fe : SEg τ} (ho : SimE tp Ec to fo) (he : SimE tp Ec te fe) : SimE tp Ec (tBM tp.K "list" (rIndex tp.K) to (tCons te tNil)) (sIndex fo fe) := fun P s n σ H r Q hq =>
  ho P s n σ H r _ (hq.bind fun x n1 v H1 r1 e1 rv q1 => by
    cases x with
    | lst ds =>
      obtain ⟨a, xs, rfl, ha, hxs⟩ := rv.lst_inv
      have q1 : Post (Rp tp.K) tp Ec P s σ H1 (bindE (fe s n1) fun y n2 => match y with
        | .int k => match intsD ds with
          | some ns => match idxI ns k with
            | some j => .ok (.int (j : Int), n2)
            | none => .no
          | none => .no
        | _ => .no) Q := q1
      refine ⟨.inl ⟨rfl, xs, .inl (.inl (Fz_sub _ _ _ _ ha))⟩, he P s n1 σ H1 r1 _ (q1.bind fun y n2 u H2 r2 e2 ru q2 => ?_)⟩
      have ha2 := r1.fz e2 _ _ ha
      have hxs2 := hxs.mono (r1.fz e2)
      cases y with
      | int k =>
        have q2 : Post (Rp tp.K) tp Ec P s σ H2 (match intsD ds with
          | some ns => match idxI ns k with
            | some j => .ok (.int (j : Int), n2)
            | none => .no
          | none => .no) Q := q2
        cases e : intsD ds with
        | none => rw [e] at q2; exact False.elim q2
        | some ns =>
          rw [e] at q2
          have q2 : Post (Rp tp.K) tp Ec P s σ H2 (match idxI ns k with
            | some j => .ok (.int (j : Int), n2)
            | none => .no) Q := q2
          cases ej : idxI ns k with
          | none => rw [ej] at q2; exact False.elim q2
          | some j =>
            rw [ej] at q2
            obtain ⟨h1, h2⟩ := idxI_at ej
            rw [intsD_eq e] at hxs2
            rw [hxs2.ints_inv] at ha2
            refine ⟨a, ns.map V.int, u, j, .int k, rfl, rfl, .inl (.inl (Fz_sub _ _ _ _ ha2)), by rw [ru.int_inv]; rfl, ?_, by rw [List.getElem?_map, h1]; rfl, by rw [ru.int_inv]; simp [eqV], fun m z hm hz => ?_, q2.same r2 (.int _)⟩
            · rw [List.all_map, List.all_eq_true]
              exact fun _ _ => rfl
            · rw [List.getElem?_map] at hz
              cases ez : ns[m]? with
              | none => rw [ez] at hz; cases hz
              | some w =>
                rw [ez] at hz
                cases hz
                rw [ru.int_inv]
                have := h2 m w hm ez
                simp [eqV, this]
      | _ => exact False.elim q2
    | _ => exact False.elim q1)
/-! min(xs) of a list of tuples of ints -/
def minR (k : List Int) (ks : List (List Int)) : List Int := ks.foldl (fun a y => match rowLe1 a y with
  | true => a
  | false => y) k
theorem each_at {α β : Type} {R : α → β → Prop} : ∀ {as : List α} {bs : List β} {i : Nat} {a : α}, EachIs R as bs → as[i]? = some a → ∃ b, bs[i]? = some b ∧ R a b
  | _, _, i, a, .nil, h => by simp at h
  | _, _, 0, a, .cons h _, e => by
    have e := Option.some.inj e
    subst e
    exact ⟨_, rfl, h⟩
  | _, _, i + 1, a, .cons _ t, e => each_at (i := i) t e
theorem each_reads {h : Heap} : ∀ {vs : List Value} {kss : List (List Int)}, EachIs (fun v b => ∃ as, Reads h v (encR b) as) vs kss → ∃ as, ReadsAll h vs (kss.map encR) as
  | _, _, .nil => ⟨_, .nil⟩
  | _, _, .cons ⟨_, h1⟩ t => by
    obtain ⟨_, h2⟩ := each_reads t
    exact ⟨_, .cons h1 h2⟩
theorem ints_inj : ∀ {a b : List Int}, a.map PyData.int = b.map PyData.int → a = b
  | [], [], _ => rfl
  | [], _ :: _, h => by cases h
  | _ :: _, [], h => by cases h
  | x :: a, y :: b, h => by
    rw [List.map_cons, List.map_cons] at h
    injection h with h1 h2
    injection h1 with h1
    rw [h1, ints_inj h2]
theorem encR_inj {a b : List Int} (h : encR a = encR b) : a = b := by
  unfold encR at h
  injection h with h
  exact ints_inj h
theorem dataLt_rows (a b : List Int) : dataLt (encR a) (encR b) = !rowLe1 b a := by
  rw [rowLe1_eq, ← dataLe_tups]
  show _ = !(!dataLt (encR a) (encR b))
  rw [Bool.not_not]
theorem minD_rows : ∀ (ks : List (List Int)) (k : List Int), minD (encR k) (ks.map encR) = encR (minR k ks)
  | [], _ => rfl
  | y :: ks, k => by
    show minD (if dataLt (encR y) (encR k) then encR y else encR k) (ks.map encR) = _
    rw [dataLt_rows]
    show _ = encR (minR (match rowLe1 k y with
      | true => k
      | false => y) ks)
    cases rowLe1 k y
    · exact minD_rows ks y
    · exact minD_rows ks k
theorem depth_rows : ∀ kss : List (List Int), PyData.depthAll (kss.map encR) ≤ 1
  | [] => by simp [PyData.depthAll]
  | k :: kss => by
    have h1 := depth_row k
    have h2 := depth_rows kss
    rw [List.map_cons, PyData.depthAll]
    omega
section
variable {X : Cx} {K : Frg}
def rMinR (K : Frg) : List V → Hp → VK → Prop := fun vs H Q => ∃ (a : Addr) (xs : List V) (k : List Int) (kss : List (List Int)) (T : V → List Int → Prop), vs = [V.ref a] ∧ SqL K H a xs ∧ (∀ x ks, T x ks → IsRow K H x ks) ∧ EachIs T xs (k :: kss) ∧
  ∀ x, T x (minR k kss) → Q x H
theorem cr_minR (hc : X.calm = true) (hu : X.A.units + 65 < cLine) : CallR X (.builtin "min") (rMinR X.K) := by
  intro pins s σ H vs us Q I r h
  obtain ⟨a, xs, k, kss, T, rfl, hs, hT, he, q⟩ := h
  obtain ⟨its, rv, hl, hz⟩ := I.list hs
  rw [Vals.ref1 r]
  have e := each_up rv he
  have er : EachIs (fun v b => ∃ as, Reads s.heap v (encR b) as) its (k :: kss) := e.mono fun u ks ⟨x, r, t⟩ => by
    obtain ⟨t, rfl, ht⟩ := hT x ks t
    exact Dp.reads I _ _ _ (.tup ht (dpA_ints H ks)) r
  obtain ⟨as, hr⟩ := each_reads er
  have hd := depth_rows (k :: kss)
  refine min_list_data (vs := its.toArray) (x := encR k) (xs := kss.map encR) (as := as) (I.ok.hd hc) hl.isList (by simpa using hr) ⟨fun x hx y hy => ?_, fun x hx => ?_⟩ (by
    show X.A.units + 1 + PyData.depthAll ((k :: kss).map encR) < cLine
    omega) fun i v h' tk bs hi hv hk => ?_
  · have hx : x ∈ (k :: kss).map encR := hx
    have hy : y ∈ (k :: kss).map encR := hy
    obtain ⟨b, _, rfl⟩ := List.mem_map.mp hx
    obtain ⟨c, _, rfl⟩ := List.mem_map.mp hy
    exact alike_ints b c
  · have hx : x ∈ (k :: kss).map encR := hx
    obtain ⟨b, _, rfl⟩ := List.mem_map.mp hx
    exact fun z => by cases z
  · have hi : its[i]? = some v := by simpa using hi
    obtain ⟨b, hb, x, rx, tx⟩ := each_at e hi
    obtain ⟨b', hb', cs, hR⟩ := each_at er hi
    rw [hb] at hb'
    have hb' := Option.some.inj hb'
    subst hb'
    rw [minD_rows] at hv
    have e2 := encR_inj (Reads.unique (Reads.keeps hk hR) _ _ hv).1
    subst e2
    exact ⟨x, H, I.kept hk, rx, q x tx⟩
abbrev rMin3 (K : Frg) : List V → Hp → VK → Prop := fun xs H Q => rMinR K xs H Q ∨ rMinU K xs H Q
theorem cr_min3 (hc : X.calm = true) (hu : X.A.units + 65 < cLine) : CallR X (.builtin "min") (rMin3 X.K) := (cr_minR hc hu).or (o_min hc)
def bMin3 (ds : List D) : Option D := match ds with
  | [.lst es] => match rowsD es with
    | some (k :: kss) => some (rowD (minR k kss))
    | _ => bMin [.lst es]
  | _ => bMin ds
theorem s_min3 : CbS K (rMin3 K) bMin3 := fun P xs ds z H Q pin hx hg q => by
  unfold bMin3 at hg
  split at hg
  · rename_i es
    split at hg
    · rename_i k kss hk
      cases hg
      cases hx with
      | cons h1 hx =>
        cases hx
        obtain ⟨a, ys, rfl, ha, hys⟩ := h1.lst_inv
        obtain ⟨e1, e2⟩ := rowsD_each hk hys
        refine .inl ⟨a, ys, k, kss, _, rfl, .inl (.inl (Fz_sub _ _ _ _ ha)), fun x ks hr => ?_, e1, fun x hr => q x H (Same.refl H) hr⟩
        obtain ⟨t, ws, rfl, ht, hws⟩ := hr.tup_inv
        rw [hws.ints_inv] at ht
        exact ⟨t, rfl, .inl (.inl (Fz_sub _ _ _ _ ht))⟩
    · exact .inr (s_min P xs _ z H Q pin hx hg q)
  · exact .inr (s_min P xs _ z H Q pin hx hg q)
end
end G
end

section
set_option Elab.async false
set_option linter.all false
set_option backward.match.sparseCases false
set_option maxRecDepth 100000
/-! climbers: an object with a list `steps` of tuples of ints and an int `kept` -/
namespace G
open L2 PySem PyProof.Rows PySem.Spec PySem.W
structure Cl where
  rows : List (List Int)
  kept : Int
def flC (q : Addr) (k : Int) : List (Str × V) := [("steps", .ref q), ("kept", .int k)]
theorem sk_ne : ¬ (("steps" : Str) = "kept") := by decide +kernel
theorem flC_steps (q : Addr) (k : Int) : (flC q k).lookup ("steps" : Str) = some (.ref q) := by
  unfold flC
  rw [List.lookup_cons_self]
theorem flC_kept (q : Addr) (k : Int) : (flC q k).lookup ("kept" : Str) = some (.int k) := by
  unfold flC
  have h : (("kept" : Str) == "steps") = false := by decide +kernel
  rw [List.lookup_cons, h, List.lookup_cons_self]
theorem flC_no {q : Addr} {k : Int} {m : Str} (h1 : (m == ("steps" : Str)) = false) (h2 : (m == ("kept" : Str)) = false) : (flC q k).lookup m = none := by
  unfold flC
  rw [List.lookup_cons, h1, List.lookup_cons, h2]
  rfl
theorem flC_put (q : Addr) : putF "kept" (.int 1) (putF "steps" (.ref q) []) = flC q 1 := by
  show (if ("steps" : Str) = "kept" then [(("steps" : Str), V.int 1)] else (("steps" : Str), V.ref q) :: putF "kept" (V.int 1) []) = _
  rw [if_neg sk_ne]
  rfl
/-- one climber at x, its dict at dx, its list at q -/
def tpC (K : Frg) (C x dx q : Addr) : Tp Cl where
  K := K
  a := none
  c := fun k => if k = 0 then some x else none
  gh := fun b => b = x ∨ b = dx ∨ b = q
  inv := fun n P H => H x = some (.ins C dx (flC q n.kept)) ∧ H dx = some (.own x) ∧ ∃ vs, H q = some (.lst vs) ∧ RpA K (Fz P H) vs (n.rows.map rowD)
  st := fun n P P' H H' h k s => by
    obtain ⟨h1, h2, vs, h3, h4⟩ := h
    exact ⟨k _ _ (.inl rfl) h1, k _ _ (.inr (.inl rfl)) h2, vs, k _ _ (.inr (.inr rfl)) h3, h4.mono s⟩
/-- a method -/
def spC (K : Frg) (mg : Str → Option Value) (C : Addr) (g : List AV → Cl → R (D × Cl)) : Sp := fun vs H Q E => ∃ (P : List Addr) (x dx q : Addr) (n : Cl) (xs : List AV), (∀ b, (tpC K C x dx q).gh b → b ∈ P) ∧ (tpC K C x dx q).inv n P H ∧ (∀ a ∈ P, Pn (H a)) ∧ RpVs (tpC K C x dx q) (Fz P H) vs xs ∧ match g xs n with
  | .ok (d, n') => ∀ v H', SameT (tpC K C x dx q) H H' → (tpC K C x dx q).inv n' P H' → Rp K (Fz P H') v d → Q v H'
  | .ex c => ∀ H', SameT (tpC K C x dx q) H H' → EcOf mg E c H'
  | .no => False
theorem startG_rel {τ : Type} {tp : Tp τ} {vs : List V} {xs : List AV} {N : List Str} {H : Hp} {Q : List Addr} {n : τ} [DecidablePred tp.gh] (hr : RpVs tp (Fz Q H) vs xs) (hl : xs.length ≤ N.length) (hgh : ∀ b, tp.gh b → b ∈ Q) (hi : tp.inv n Q H) (pin : ∀ a ∈ Q, Pn (H a)) :
    BRel tp (fun b => if tp.gh b then none else H b) Q Q (xs.map avS ++ List.replicate (N.length - xs.length) SV.un) n (L2.start N vs) H where
  rel := ⟨by
      unfold L2.start
      rw [List.length_append, List.length_append, List.length_map, List.length_map, List.length_replicate, List.length_replicate, hr.len], fun i d h => (startT hr i).1 d h, fun i es h => absurd h ((startT hr i).2.1 es), fun i j es fs p h _ _ _ => absurd h ((startT hr i).2.1 es), fun i h => (startT hr i).2.2.1 h, fun i k h => (startT hr i).2.2.2 k h, fun b h => ⟨hgh b h, fun i es h => absurd h ((startT hr i).2.1 es)⟩, hi, pin⟩
  sm := fun b o h => by
    dsimp only at h
    split at h
    · cases h
    · exact h
  sub := fun a h => h
  new := fun a h => .inl h
  own := fun i es p h _ => absurd h ((startT hr i).2.1 es)
  twn := fun b h => if_pos h
section
variable {P : Program} {w : World} {K : Frg} {mg : Str → Option Value} {base : Heap} {C : Addr}
instance {K : Frg} {C x dx q : Addr} : DecidablePred (tpC K C x dx q).gh := fun b => inferInstanceAs (Decidable (b = x ∨ b = dx ∨ b = q))
theorem fnC {x qual : Str} {st : Stmt} {f : Addr} {fd : FuncData} {N ps : List Str} {k : Nat} {sf : SSg Cl} {g : List AV → Cl → R (D × Cl)} (F : Fun K x qual st f fd) (S : FnScope N ps (defScope st)) (hN : ps.length ≤ N.length) (hg : g = runT N.length ps.length sf)
    (hbody : ∀ (x dx q : Addr) (cdv : Value) (A : Around) (outer : List Env) (s : Shared) (H : Hp) (E : XK), Room k (A.deeper (envOfC qual (defScope st) s.heap.objs.size f cdv)) →
      ∃ t, PSs (cxOf (L2.CX P w) P w K mg base N qual (defScope st) f cdv A outer s H E) (defBody st) t ∧ SimS (tpC K C x dx q) (EcOf mg E) t sf) : FnOk P w K mg base (L2.CX P w) (k + 1) f fd ps (spC K mg C g) := by
  subst hg
  refine F.okX S (fun vs H Q E h => ?_) (fun cdv A outer s H vs Q E hr h => ?_)
  · obtain ⟨Q1, x, dx, q, n, xs, _, _, pin, hr, h⟩ := h
    rw [hr.len]
    by_cases hl : xs.length = ps.length
    · exact hl
    · unfold runT at h
      rw [if_neg hl] at h
      exact False.elim h
  · obtain ⟨Q1, x, dx, q, n, xs, hgh, hi, pin, hra, h⟩ := h
    obtain ⟨t, ht, hs⟩ := hbody x dx q cdv A outer s H E hr
    refine ⟨t, ht, ?_⟩
    unfold runT at h
    by_cases hl : xs.length = ps.length
    · rw [if_pos hl] at h
      rw [← hl] at h
      have toT : ∀ {H' : Hp}, Same (fun b => if (tpC K C x dx q).gh b then none else H b) H' → SameT (tpC K C x dx q) H H' := fun sm b o hb ho => sm b o (by dsimp only; rw [if_neg hb]; exact ho)
      refine hs _ Q1 Q1 _ n (L2.start N vs) H (startG_rel hra (by rw [hl]; exact hN) hgh hi pin) _ ?_
      cases e : sf (xs.map avS ++ List.replicate (N.length - xs.length) SV.un) n with
      | rt d n => rw [e] at h; exact fun v H' sm hv _ rv => h v H' (toT sm) hv rv
      | nx s' n' => rw [e] at h; exact False.elim h
      | ex c => rw [e] at h; exact fun H' sm => h H' (toT sm)
      | bk _ _ => rw [e] at h; exact False.elim h
      | ct _ _ => rw [e] at h; exact False.elim h
      | no => rw [e] at h; exact False.elim h
    · rw [if_neg hl] at h
      exact False.elim h
/-- what is known of the class -/
structure CTx (K : Frg) (C : Addr) : Prop where
  cl : Cls K C
  nS : NoAttr K C "steps"
  nK : NoAttr K C "kept"
end
section
variable {K : Frg} {C x dx q : Addr} {Ec : EC} {te : TE} {fe : SEg Cl} {P : List Addr} {s : SD} {n : Cl} {σ : L2.St} {H : Hp}
theorem Rel.selfAt (r : Rel (tpC K C x dx q) P s n σ H) {i k : Nat} (h : s[i]? = some (.gh k)) : σ[i]? = some (some (.ref x)) := by
  obtain ⟨a, ha, hs⟩ := r.gs i k h
  have : (if k = 0 then some x else none) = some a := ha
  split at this
  · rw [hs, Option.some.inj this]
  · cases this
/-- self.steps[e] -/
def sStIx (i : Nat) (fe : SEg Cl) : SEg Cl := fun s n => match s[i]? with
  | some (.gh _) => bindE (fe s n) fun k n1 => match k with
    | .int k => optE ((atI n1.rows k).map rowD) n1
    | _ => .no
  | _ => .no
theorem sim_stIx (T : CTx K C) (i : Nat) (he : SimE (tpC K C x dx q) Ec te fe) : SimE (tpC K C x dx q) Ec (tOp (rIx K) (tFld K (tVar i) "steps") te) (sStIx i fe) := fun P s n σ H r Q hq => by
  unfold sStIx at hq
  split at hq
  · rename_i k e
    obtain ⟨h1, h2, vs, h3, h4⟩ := r.iv
    refine ⟨.ref x, r.selfAt e, x, C, dx, _, _, rfl, h1, T.cl, T.nS, flC_steps _ _, he P s n σ H r _ (hq.bind fun d n1 v H1 r1 e1 rv q1 => ?_)⟩
    cases d with
    | int k =>
      obtain ⟨z, hz, q2⟩ := q1.opt r1
      obtain ⟨g1, g2, ws, g3, g4⟩ := r1.iv
      rw [← atI_map] at hz
      obtain ⟨u, hu, ru⟩ := atI_rp g4 hz
      rw [rv.int_inv]
      exact .inl ⟨q, ws, k, u, rfl, rfl, .inl (.inl g3), hu, q2 u H1 (Same.refl H1) ru⟩
    | _ => exact False.elim q1
  · exact False.elim hq
/-- a tuple of ints -/
def rowOf : D → Option (List Int)
  | .tup es => intsD es
  | _ => none
theorem rowOf_eq {d : D} {ks : List Int} (h : rowOf d = some ks) : d = rowD ks := by
  cases d with
  | tup es => rw [show es = ks.map D.int from intsD_eq h]; rfl
  | _ => cases h
/-- self.steps.append(e) -/
def sStApp (i : Nat) (fe : SEg Cl) : SSg Cl := fun s n => match s[i]? with
  | some (.gh _) => bindS (fe s n) fun d n1 => match rowOf d with
    | some ks => if n1.rows.length < big then .nx s ⟨n1.rows ++ [ks], n1.kept⟩ else .no
    | none => .no
  | _ => .no
theorem ne_obj {H : Hp} {a b : Addr} {o o' : HO} (h1 : H a = some o) (h2 : H b = some o') (h : o ≠ o') : a ≠ b := fun z => by
  subst z
  rw [h1] at h2
  exact h (Option.some.inj h2)
theorem sim_stApp (T : CTx K C) (i : Nat) (he : SimE (tpC K C x dx q) Ec te fe) : SimS (tpC K C x dx q) Ec (tDrop (tBM K "list" rAppend (tFld K (tVar i) "steps") (tCons te tNil))) (sStApp i fe) := fun B P0 P s n σ H b L hq => by
  unfold sStApp at hq
  split at hq
  · rename_i k e
    obtain ⟨h1, h2, vs, h3, h4⟩ := b.rel.iv
    refine ⟨.ref x, b.rel.selfAt e, x, C, dx, _, _, rfl, h1, T.cl, T.nS, flC_steps _ _, .inl ⟨rfl, vs, .inl (.inl h3)⟩, he P s n σ H b.rel _ (PostS.bind b hq fun d n1 v H1 b1 e1 r1 q1 => ?_)⟩
    obtain ⟨g1, g2, ws, g3, g4⟩ := b1.rel.iv
    cases ed : rowOf d with
    | none => rw [ed] at q1; exact False.elim q1
    | some ks =>
      rw [ed] at q1
      have q1 : PostS (tpC K C x dx q) Ec B P0 (if n1.rows.length < big then .nx s ⟨n1.rows ++ [ks], n1.kept⟩ else .no) L := q1
      split at q1
      · rename_i hb
        have qP : q ∈ P := (b1.rel.gp q (.inr (.inr rfl))).1
        have nx : x ≠ q := ne_obj g1 g3 (fun z => by cases z)
        have nd : dx ≠ q := ne_obj g2 g3 (fun z => by cases z)
        have fe : Fz P (upd H1 q (.lst (ws ++ [v]))) = Fz P H1 := Fz_upd_in qP
        have es : SameT (tpC K C x dx q) H1 (upd H1 q (.lst (ws ++ [v]))) := fun c o hc h => by
          rw [upd_ne fun z => hc (.inr (.inr z))]
          exact h
        refine ⟨q, ws, v, rfl, rfl, g3, by rw [g4.length, List.length_map]; exact big_lt hb, q1 P σ _ (b1.grow (b1.rel.keep es ⟨by rw [upd_ne nx]; exact g1, by rw [upd_ne nd]; exact g2, ws ++ [v], upd_same, ?_⟩ fun c hc => ?_) es)⟩
        · rw [fe, List.map_append]
          rw [rowOf_eq ed] at r1
          exact g4.append (.cons r1 .nil)
        · by_cases z : c = q
          · rw [z, upd_same]
            exact Pn.of rfl (fun _ y => nomatch y)
          · rw [upd_ne z]
            exact b1.rel.gn c hc
      · exact False.elim q1
  · exact False.elim hq
end
/-! ### a new climber, and at once a method of it -/
def spI (K : Frg) (mg : Str → Option Value) (C : Addr) (gck : List D → R D) : Sp := fun vs H Q E => ∃ (P : List Addr) (x dx : Addr) (v : V) (d : D), vs = [.ref x, v] ∧ H x = some (.ins C dx []) ∧ H dx = some (.own x) ∧ (∀ a ∈ P, Pn (H a)) ∧ x ∈ P ∧ Rp K (Fz P H) v d ∧ match gck [d] with
  | .ok _ => ∀ q H', H q = none → (∀ b o, b ≠ x → H b = some o → H' b = some o) → H' x = some (.ins C dx (flC q 1)) → H' q = some (.lst [v]) → Q .non H'
  | .ex c => ∀ H', (∀ b o, b ≠ x → H b = some o → H' b = some o) → EcOf mg E c H'
  | .no => False
section
variable {Pr : Program} {w : World} {K : Frg} {mg : Str → Option Value} {base : Heap} {C : Addr}
theorem ok_init {st : Stmt} {f : Addr} {fd : FuncData} {k : Nat} {gck : List D → R D} (T : CTx K C) (F : Fun K "__init__" "Climber.__init__" st f fd) (S : FnScope ["self", "semigroup"] ["self", "semigroup"] (defScope st))
    (hbody : ∀ (cdv : Value) (A : Around) (outer : List Env) (s : Shared) (H : Hp) (E : XK), Room k (A.deeper (envOfC "Climber.__init__" (defScope st) s.heap.objs.size f cdv)) →
      PSs (cxOf (L2.CX Pr w) Pr w K mg base ["self", "semigroup"] "Climber.__init__" (defScope st) f cdv A outer s H E) (defBody st) (tSeq (tDrop (tCall (spP K mg gck) [] E (tCons (tVar 1) tNil))) (tSeq (sFld K (tVar 0) (tLst (tCons (tVar 1) tNil)) "steps") (sFld K (tVar 0) (tC (.int 1)) "kept")))) :
    FnOk Pr w K mg base (L2.CX Pr w) (k + 1) f fd ["self", "semigroup"] (spI K mg C gck) := by
  refine F.okX S (fun vs H Q E h => ?_) (fun cdv A outer s H vs Q E hr h => ?_)
  · obtain ⟨P, x, dx, v, d, rfl, _⟩ := h
    rfl
  · obtain ⟨P, x, dx, v, d, rfl, hx, hdx, pin, xP, rv, h⟩ := h
    refine ⟨_, hbody cdv A outer s H E hr, ?_⟩
    refine ⟨v, rfl, P, [d], pin, .cons rv .nil, ?_⟩
    cases eg : gck [d] with
    | ok z =>
      rw [eg] at h
      intro u H1 sm _
      have h : ∀ q H', H q = none → (∀ b o, b ≠ x → H b = some o → H' b = some o) → H' x = some (.ins C dx (flC q 1)) → H' q = some (.lst [v]) → Q .non H' := h
      refine ⟨v, rfl, (by show 1 ≤ sizeLine; rw [sizeLine_eq]; omega), fun q nq => ?_⟩
      have nxq : x ≠ q := ne_of_none (sm _ _ hx) nq
      refine ⟨.ref x, rfl, x, C, dx, [], rfl, by rw [upd_ne nxq]; exact sm _ _ hx, T.cl, T.nS, by decide, ?_⟩
      refine ⟨.ref x, rfl, x, C, dx, _, rfl, upd_same, T.cl, T.nK, (by show 1 < 1000; decide), ?_⟩
      rw [flC_put]
      refine h q _ (sm.free nq) (fun b o hb ho => ?_) upd_same ?_
      · rw [upd_ne hb, upd_ne hb, upd_ne (ne_of_none (sm _ _ ho) nq)]
        exact sm _ _ ho
      · rw [upd_ne nxq.symm, upd_ne nxq.symm, upd_same]
    | ex c =>
      rw [eg] at h
      exact fun H' sm => h H' fun b o _ ho => sm b o ho
    | no => rw [eg] at h; exact False.elim h
end
section
variable {τ : Type} {tp : Tp τ} {P L : List Addr} {s : SD} {n n' : τ} {σ : L2.St} {H H' : Hp}
theorem fz_moreL (hL : ∀ p ∈ L, H p = none) (e : ∀ a o, a ∉ P → H a = some o → H' a = some o) : Same (Fz P H) (Fz (L ++ P) H') := fun a o h => by
  have h1 : a ∉ P := fun z => by rw [Fz_in z] at h; cases h
  rw [Fz_out h1] at h
  have h2 : a ∉ L ++ P := fun z => by
    rcases List.mem_append.mp z with z | z
    · rw [hL a z] at h; cases h
    · exact h1 z
  rw [Fz_out h2]
  exact e a o h1 h
/-- new things are set apart -/
theorem Rel.moreL (r : Rel tp P s n σ H) (e : Same H H') (hL : ∀ p ∈ L, H p = none) (hp : ∀ p ∈ L, Pn (H' p)) : Rel tp (L ++ P) s n σ H' := by
  have r2 := r.grow e
  have sm : Same (Fz P H) (Fz (L ++ P) H') := fz_moreL hL fun a o _ h => e a o h
  refine ⟨r.len, fun j d h => ?_, fun j es h => ?_, r.inj, r.tw, r.gs, fun a h => ?_, tp.st n P _ H H' r.iv (fun b o _ h => e b o h) sm, fun a h => ?_⟩
  · obtain ⟨v, q1, q2⟩ := r.im j d h
    exact ⟨v, q1, q2.mono sm⟩
  · obtain ⟨q, ys, e1, e2, e3, e4⟩ := r.ow j es h
    exact ⟨q, ys, e1, List.mem_append_right _ e2, e q _ e3, e4.mono sm⟩
  · obtain ⟨q1, q3⟩ := r.gp a h
    exact ⟨List.mem_append_right _ q1, q3⟩
  · rcases List.mem_append.mp h with z | z
    · exact hp a z
    · exact r2.pin a z
/-- and forgotten -/
theorem Rel.leave {n0 : τ} {H0 : Hp} (r : Rel tp (L ++ P) s n σ H) (r0 : Rel tp P s n0 σ H0) (hL : ∀ p ∈ L, H0 p = none) (e : ∀ a o, a ∉ L → H a = some o → H' a = some o) : Rel tp P s n σ H' := by
  have nP : ∀ a ∈ P, a ∉ L := fun a h z => r0.pin a h (hL a z)
  have sm : Same (Fz (L ++ P) H) (Fz P H') := fun a o h => by
    have h1 : a ∉ L ++ P := fun z => by rw [Fz_in z] at h; cases h
    rw [Fz_out h1] at h
    rw [Fz_out fun z => h1 (List.mem_append_right _ z)]
    exact e a o (fun z => h1 (List.mem_append_left _ z)) h
  have gP : ∀ a, tp.gh a → a ∈ P := fun a h => (r0.gp a h).1
  refine ⟨r.len, fun j d h => ?_, fun j es h => ?_, r.inj, r.tw, r.gs, fun a h => ⟨gP a h, (r.gp a h).2⟩, tp.st n _ P H H' r.iv (fun b o hg h => e b o (nP b (gP b hg)) h) sm, fun a h => ?_⟩
  · obtain ⟨v, q1, q2⟩ := r.im j d h
    exact ⟨v, q1, q2.mono sm⟩
  · obtain ⟨q, ys, e1, e2, e3, e4⟩ := r.ow j es h
    obtain ⟨q', zs, g1, g2, _⟩ := r0.ow j es h
    rw [e1] at g1
    cases g1
    exact ⟨q, ys, e1, g2, e q _ (nP q g2) e3, e4.mono sm⟩
  · exact (r.pin a (List.mem_append_right _ h)).same fun o h3 => e a o (nP a h) h3
end
section
variable {τ : Type} {tp : Tp τ} {Ec : EC} {mg : Str → Option Value} {E : XK} {C : Addr} {ta tb : TE} {fa fb : SEg τ}
def sNewM (gck : List D → R D) (g : List AV → Cl → R (D × Cl)) (fa fb : SEg τ) : SEg τ := fun s n => bindE (fa s n) fun d n1 => match gck [d] with
  | .ok _ => match rowOf d with
    | some ks => bindE (fb s n1) fun e n2 => match g [.gh 0, .d e] ⟨[ks], 1⟩ with
      | .ok (z, _) => .ok (z, n2)
      | .ex c => .ex c
      | .no => .no
    | none => .no
  | .ex c => .ex c
  | .no => .no
theorem sim_newM {gck : List D → R D} {g : List AV → Cl → R (D × Cl)} {m : Str} (hm1 : (m == ("steps" : Str)) = false) (hm2 : (m == ("kept" : Str)) = false) (hE : ∀ c H, Ec c H → EcOf mg E c H) (ha : SimE tp Ec ta fa) (hb : SimE tp Ec tb fb) :
    SimE tp Ec (tMeth C m (spC tp.K mg C g) [] E (tMake C (spI tp.K mg C gck) [] E (tCons ta tNil)) (tCons tb tNil)) (sNewM gck g fa fb) := fun P s n σ H r Q hq =>
  ha P s n σ H r _ (hq.bind fun d n1 v H1 r1 e1 rv q1 => by
    intro x dx nx ndx nxd
    have hx0 : (upd (upd H1 dx (.own x)) x (.ins C dx [])) x = some (.ins C dx []) := upd_same
    have hd0 : (upd (upd H1 dx (.own x)) x (.ins C dx [])) dx = some (.own x) := by rw [upd_ne nxd, upd_same]
    have s0 : Same H1 (upd (upd H1 dx (.own x)) x (.ins C dx [])) := fun b o e => by
      rw [upd_ne (ne_of_none e nx), upd_ne (ne_of_none e ndx)]
      exact e
    have rA := r1.moreL (L := [x, dx]) s0 (fun p hp => by
      rcases List.mem_cons.mp hp with z | z
      · rw [z]; exact nx
      · rw [List.mem_singleton.mp z]; exact ndx) (fun p hp => by
      rcases List.mem_cons.mp hp with z | z
      · rw [z, hx0]; exact Pn.of rfl (fun _ y => nomatch y)
      · rw [List.mem_singleton.mp z, hd0]; exact Pn.of rfl (fun _ y => nomatch y))
    have fz0 : Same (Fz P H1) (Fz ([x, dx] ++ P) (upd (upd H1 dx (.own x)) x (.ins C dx []))) := fz_moreL (fun p hp => by
      rcases List.mem_cons.mp hp with z | z
      · rw [z]; exact nx
      · rw [List.mem_singleton.mp z]; exact ndx) fun a o _ h => s0 a o h
    refine ⟨[x, dx] ++ P, x, dx, v, d, rfl, hx0, hd0, rA.pin, List.mem_cons_self, rv.mono fz0, ?_⟩
    have q1 : Post (Rp tp.K) tp Ec P s σ H1 (match gck [d] with
      | .ok _ => match rowOf d with
        | some ks => bindE (fb s n1) fun e n2 => match g [.gh 0, .d e] ⟨[ks], 1⟩ with
          | .ok (z, _) => .ok (z, n2)
          | .ex c => .ex c
          | .no => .no
        | none => .no
      | .ex c => .ex c
      | .no => .no) Q := q1
    cases eg : gck [d] with
    | no => rw [eg] at q1; exact False.elim q1
    | ex c =>
      rw [eg] at q1
      exact fun H' sm => hE c H' (q1 H' fun a o hg h => sm a o (ne_of_none h nx) (s0 a o h))
    | ok z0 =>
      rw [eg] at q1
      intro q H2 nq kp hx2 hq2
      refine ⟨rfl, x, dx, _, rfl, hx2, flC_no hm1 hm2, ?_⟩
      cases er : rowOf d with
      | none =>
        have q1 : Post (Rp tp.K) tp Ec P s σ H1 (match rowOf d with
          | some ks => bindE (fb s n1) fun e n2 => match g [.gh 0, .d e] ⟨[ks], 1⟩ with
            | .ok (z, _) => .ok (z, n2)
            | .ex c => .ex c
            | .no => .no
          | none => .no) Q := q1
        rw [er] at q1
        exact False.elim q1
      | some ks =>
        have q1 : Post (Rp tp.K) tp Ec P s σ H1 (match rowOf d with
          | some ks => bindE (fb s n1) fun e n2 => match g [.gh 0, .d e] ⟨[ks], 1⟩ with
            | .ok (z, _) => .ok (z, n2)
            | .ex c => .ex c
            | .no => .no
          | none => .no) Q := q1
        rw [er] at q1
        have nq1 : H1 q = none := s0.free nq
        have s2 : Same H1 H2 := fun b o h => kp b o (ne_of_none h nx) (s0 b o h)
        have hd2 : H2 dx = some (.own x) := kp dx _ nxd hd0
        have hL : ∀ p ∈ [x, dx, q], H1 p = none := fun p hp => by
          rcases List.mem_cons.mp hp with z | hp
          · rw [z]; exact nx
          · rcases List.mem_cons.mp hp with z | z
            · rw [z]; exact ndx
            · rw [List.mem_singleton.mp z]; exact nq1
        have r2 := r1.moreL (L := [x, dx, q]) s2 hL (fun p hp => by
          rcases List.mem_cons.mp hp with z | hp
          · rw [z, hx2]; exact Pn.of rfl (fun _ y => nomatch y)
          · rcases List.mem_cons.mp hp with z | z
            · rw [z, hd2]; exact Pn.of rfl (fun _ y => nomatch y)
            · rw [List.mem_singleton.mp z, hq2]; exact Pn.of rfl (fun _ y => nomatch y))
        have fz2 : Same (Fz P H1) (Fz ([x, dx, q] ++ P) H2) := fz_moreL hL fun a o _ h => s2 a o h
        have ng : ∀ p ∈ [x, dx, q], ¬ tp.gh p := fun p hp z => r1.gn p z (hL p hp)
        refine hb ([x, dx, q] ++ P) s n1 σ H2 r2 _ ?_
        -- the argument, then the method
        cases ef : fb s n1 with
        | no => rw [ef] at q1; exact False.elim q1
        | ex c =>
          rw [ef] at q1
          exact fun H' sm => q1 H' fun a o hg h => sm a o hg (s2 a o h)
        | ok y =>
          obtain ⟨e, n2⟩ := y
          rw [ef] at q1
          intro u H3 r3 e3 ru
          show spC tp.K mg C g [V.ref x, u] H3 Q E
          have x3 : H3 x = some (.ins C dx (flC q 1)) := e3 _ _ (ng x List.mem_cons_self) hx2
          have d3 : H3 dx = some (.own x) := e3 _ _ (ng dx (by simp)) hd2
          have q3 : H3 q = some (.lst [v]) := e3 _ _ (ng q (by simp)) hq2
          have rv3 : Rp tp.K (Fz ([x, dx, q] ++ P) H3) v (rowD ks) := by
            rw [← rowOf_eq er]
            exact (rv.mono fz2).mono (r2.fz e3)
          refine ⟨[x, dx, q] ++ P, x, dx, q, ⟨[ks], 1⟩, [.gh 0, .d e], fun b hb => ?_, ⟨x3, d3, [v], q3, .cons rv3 .nil⟩, r3.pin, .cons (.gh rfl) (.cons (.d ru) .nil), ?_⟩
          · rcases hb with z | z | z <;> (rw [z]; simp)
          · have q1 : Post (Rp tp.K) tp Ec P s σ H1 (match g [.gh 0, .d e] ⟨[ks], 1⟩ with
              | .ok (z, _) => .ok (z, n2)
              | .ex c => .ex c
              | .no => .no) Q := q1
            have out : ∀ {H' : Hp}, SameT (tpC tp.K C x dx q) H3 H' → ∀ a o, a ∉ [x, dx, q] → H3 a = some o → H' a = some o := fun sm a o ha h => sm a o (fun z => ha (by rcases z with z | z | z <;> (rw [z]; simp))) h
            have old : ∀ {H' : Hp}, SameT (tpC tp.K C x dx q) H3 H' → SameT tp H1 H' := fun sm a o hg h => out sm a o (fun z => by rw [hL a z] at h; cases h) (e3 a o hg (s2 a o h))
            cases em : g [.gh 0, .d e] ⟨[ks], 1⟩ with
            | no => rw [em] at q1; exact False.elim q1
            | ex c =>
              rw [em] at q1
              exact fun H' sm => hE c H' (q1 H' (old sm))
            | ok z =>
              obtain ⟨z, nz⟩ := z
              rw [em] at q1
              intro v' H' sm hv' rv'
              exact q1 v' H' (r3.leave r1 hL (out sm)) (old sm) (rv'.mono (Fz_less fun a h => List.mem_append_right _ h)))
end
end G
end

section
set_option Elab.async false
set_option linter.all false
set_option backward.match.sparseCases false
set_option maxRecDepth 100000
/-! dicts whose keys are tuples of ints: {k: v}, sorted(d) -/
namespace G
open L2 PySem PyProof.Rows PySem.Spec PySem.W
section
variable {X : Cx}
/-- {k: v}, k a tuple -/
def tDisp1 (tk tv : TE) : TE := fun σ H Q => ∀ p, H p = none → tk σ (upd H p (.dT [])) fun x H1 => tv σ H1 fun y H2 => H2 p = some (.dT []) ∧ ∃ (b : Addr) (k : List L2.Key), x = .ref b ∧ H2 b = some (.tup (k.map kV)) ∧ Q (.ref p) (upd H2 p (.dT [(k, y)]))
theorem pe_disp1 {pos : Pos} {k v : Expr} {tk tv : TE} (hu : X.A.units < cLine) (hk : PE X k tk) (hv : PE X v tv) : PE X (.Dict [some k] [v] pos) (tDisp1 tk tv) := by
  refine ⟨fun pins s σ H Q I q => ?_⟩
  have hn := I.hok.fresh (Nat.le_refl s.heap.objs.size)
  have I1 := I.laid (a := s.heap.objs.size) (o := .dT []) (h' := s.heap.push { cls := .type "dict", data := .dict #[] }) (t' := s.toks) (fun _ _ q => Heap.get?_push_of_some _ q) (Nat.le_refl _) (dt_empty s.heap I.big)
  have hshape := zip_pairTrees [some k] [v] X.env pos rfl rfl
  rw [arm_eval_Dict, hshape, dictDisplay_pairs (pairTrees [some k] [v] X.env pos) (by intro z; cases z) (by show 1 < _; omega)]
  refine wpAny_bind (wpAny_standAt (wpAny_bind (wpAny_subDictH (knd := tupleKind (mixKind X.prog X.w)) hu (by show 1 ≤ 15; omega) ?_)))
  refine pairTrees_cons_walk (thn (hk.run pins _ σ _ _ I1 (q _ hn)) fun u s1 ⟨x, H1, J1, rx, q1⟩ => thn (hv.run pins s1 σ H1 _ J1 q1) fun w2 s2 ⟨y, H2, J2, ry, e, b, ks, ex, eb, q2⟩ => pairTrees_nil_walk ?_)
  subst ex
  obtain rfl : u = Value.ref b := rx
  obtain ⟨z, hd, xs0, r0, dd⟩ := dt_of J2.hok e
  cases r0
  refine ⟨[(ks, b, w2)], ⟨rfl, rfl, key_of J2.hok eb, trivial⟩, dd, fun h' tk dd' hs => wpAny_pure ⟨.ref s.heap.objs.size, _, ?_, rfl, q2⟩⟩
  obtain ⟨qo, es, ep, hq, h2, h3, h4, _, h5⟩ := dd'
  refine d_write J2 (by rw [e]; exact True.intro) hs ⟨qo, hq⟩ ⟨by show 1 ≤ sizeLine; rw [sizeLine_eq]; omega, hd, [(ks, b, w2)], .cons ⟨rfl, ?_, ry⟩ .nil, qo, es, ep, hq, h2, h3, h4, h5⟩
  rw [upd_ne (ne_of eb e (fun z => nomatch z))]
  exact eb
/-- a tuple of ints at t -/
def RowAt (H : Hp) (x : V) (ks : List Int) : Prop := ∃ t, x = V.ref t ∧ H t = some (.tup (ks.map V.int))
def rSortDT (K : Frg) : List V → Hp → VK → Prop := fun vs H Q => ∃ (d : Addr) (kvs : List (List L2.Key × V)) (kss : List (List Int)), vs = [V.ref d] ∧ H d = some (.dT kvs) ∧ kvs.map (·.1) = kss.map (fun ks => ks.map Sum.inl) ∧ (∀ ks ∈ kss, ks ≠ []) ∧
  ∀ (ys : List V) (p : Addr), EachIs (RowAt H) ys (sortR kss) → H p = none → Q (.ref p) (upd H p (.lst ys))
theorem kV_ints (ks : List Int) : (ks.map Sum.inl).map kV = ks.map V.int := by
  rw [List.map_map]
  rfl
theorem keys_each {H : Hp} : ∀ {kvs : List (List L2.Key × V)} {xs : List (List L2.Key × Addr × Value)} {kss : List (List Int)}, KT H kvs xs → kvs.map (·.1) = kss.map (fun ks => ks.map Sum.inl) → EachIs (fun u ks => ∃ t, u = Value.ref t ∧ H t = some (.tup (ks.map V.int))) (xs.map fun x => Value.ref x.2.1) kss
  | _, _, [], .nil, _ => .nil
  | _, _, _ :: _, .nil, e => by cases e
  | _, _, [], .cons _ _, e => by cases e
  | p :: kvs, x :: xs, ks :: kss, .cons h t, e => by
    rw [List.map_cons, List.map_cons] at e
    injection e with e1 e2
    refine .cons ⟨x.2.1, rfl, ?_⟩ (keys_each t e2)
    have := h.2.1
    rw [e1, kV_ints] at this
    exact this
theorem cr_sortDT (hc : X.calm = true) (hu : X.A.units + 65 < cLine) : CallR X (.builtin "sorted") (rSortDT X.K) := by
  intro pins s σ H vs us Q I r h
  obtain ⟨d, kvs, kss, rfl, hd, hkk, hne, q⟩ := h
  rw [Vals.ref1 r]
  obtain ⟨z, hs, xs, pr, o, es, ep, ho, hx, hdt, he, hn⟩ := (show ObjOk X.prog X.w H s.heap d (.dT kvs) from I.hok d _ hd)
  have l1 : es.size = xs.length := size_of_entries he
  have l2 : kvs.length = xs.length := Paired.length pr
  have l3 : kvs.length = kss.length := by
    have := congrArg List.length hkk
    rw [List.length_map, List.length_map] at this
    exact this
  refine Calls.call_function_entry PyProof.Rows.kind_sorted PyProof.Rows.plain_sorted PyProof.Rows.entry_sorted (PyProof.Rows.args_sorted1 _) ?_
  unfold Builtin.«sorted»
  refine wpAny_bind (m := checkCount "sorted" 1 1 _) (wpAny_pure ?_)
  refine wpAny_bind (PySem.W.kdu_collect (A := X.A.in1) (kdl_raw hs hx hdt) (I.ok.hd hc) ho (by omega) fun h' tk acc hk it => ?_)
  have ea : acc.toList = xs.map fun x => Value.ref x.2.1 := by
    have hl : acc.toList.length = xs.length := by rw [Array.length_toList, it.1]; exact l1
    apply List.ext_getElem?
    intro j
    rw [List.getElem?_map]
    cases hj : acc.toList[j]? with
    | none =>
      have h1 := List.getElem?_eq_none_iff.mp hj
      rw [List.getElem?_eq_none (by omega)]
      all_goals rfl
    | some v =>
      obtain ⟨en, hen, hv⟩ := it.2 j v (by rw [← Array.getElem?_toList]; exact hj)
      have qe := entry_at he j
      rw [hen] at qe
      cases hb : xs[j]? with
      | none =>
        rw [hb] at qe
        exact nomatch (show some en = none from qe)
      | some b =>
        rw [hb] at qe
        have e2 : en = entryOfKey (tupleKind (mixKind X.prog X.w)) b := Option.some.inj qe
        rw [hv, e2]
        all_goals rfl
  have I1 : Inv X pins σ H { s with heap := h', toks := tk } := I.kept hk
  have each := keys_each pr hkk
  rw [← ea] at each
  have hal : acc.toList.length = kss.length := by rw [Array.length_toList, it.1]; omega
  refine wpAny_bind (wpAny_newList ?_ (by rw [hal]; omega))
  have hoL : (h'.push (seqObj "list" acc.toList.toArray 0)).get? h'.objs.size = some (seqObj "list" acc.toList.toArray 0) := Heap.get?_push_size _ rfl
  have er : EachIs (fun v b => ∃ as, Reads (h'.push (seqObj "list" acc.toList.toArray 0)) v (encR b) as ∧ h'.objs.size ∉ as) acc.toList kss := each.mono fun u ks ⟨t, e, ht⟩ => by
    subst e
    exact ⟨[], readsT (P := X.prog) (w := X.w) (isT_keep (I1.isT (.inl (.inl ht))) fun b u e => Heap.get?_push_of_some _ e), fun h => by cases h⟩
  show wpAny _ _ _ _ _ { s with heap := h'.push (seqObj "list" acc.toList.toArray 0), toks := tk }
  refine wpAny_bind (wpAny_holding (list_sort_data (s := { s with heap := h'.push (seqObj "list" acc.toList.toArray 0), toks := tk }) (vs := acc.toList) (bs := kss) (enc := encR) hoL each er (AllAlike.of fun b b' => alike_ints b b') (.inl fun d hd => ?_) (by omega) (fun b hb => ?_) fun out ho hE => ?_))
  · obtain ⟨ks, hk, rfl⟩ := List.mem_map.mp hd
    cases ks with
    | nil => exact absurd rfl (hne [] hk)
    | cons k ks => exact ⟨_, _, rfl⟩
  · have := depth_row b
    show X.A.units + 1 + 1 + (encR b).depth < cLine
    omega
  rw [dataLe_tups, sortR_eq] at hE
  have hE2 : EachIs (fun u ks => ∃ x, RelV x u ∧ RowAt H x ks) out (sortR kss) := hE.mono fun u ks ⟨t, e, ht⟩ => ⟨V.ref t, e, t, rfl, ht⟩
  obtain ⟨ys, h1, h2⟩ := each_down hE2
  obtain ⟨c, hc⟩ := sortedHeap_at (vs := acc.toList) (out := out.toArray) hoL
  have hl2 : ys.length ≤ sizeLine := by
    rw [h1.length, ho]
    omega
  refine wpAny_pure ⟨_, rfl, .ref h'.objs.size, upd H h'.objs.size (.lst ys), I1.laid (t' := tk) (fun b u e => ?_) (Nat.le_refl _) ⟨hl2, out, c, h1, hc⟩, rfl, q ys _ h2 (I1.hok.fresh (Nat.le_refl _))⟩
  have hb : b < h'.objs.size := Heap.lt_size e
  rw [PyProof.Rows.sortedHeap_old (Nat.ne_of_lt hb) (by rw [size_push']; exact Nat.lt_succ_of_lt hb)]
  exact Heap.get?_push_of_some _ e
end
/-! ### a dict of one's own, its keys tuples of ints, each value True -/
def keyI (n : List (List Int)) : List (List L2.Key) := n.map fun ks => ks.map Sum.inl
def tpK (K : Frg) (d : Addr) : Tp (List (List Int)) where
  K := K
  a := none
  c := fun k => if k = 0 then some d else none
  gh := fun b => b = d
  inv := fun n _ H => ∃ kvs : List (List L2.Key × V), H d = some (.dT kvs) ∧ kvs.map (·.1) = keyI n
  st := fun n P P' H H' h k s => by
    obtain ⟨kvs, h1, h2⟩ := h
    exact ⟨kvs, k _ _ rfl h1, h2⟩
theorem inl_inj : ∀ {a b : List Int}, a.map (Sum.inl : Int → L2.Key) = b.map Sum.inl → a = b
  | [], [], _ => rfl
  | [], _ :: _, h => by cases h
  | _ :: _, [], h => by cases h
  | x :: a, y :: b, h => by
    rw [List.map_cons, List.map_cons] at h
    injection h with h1 h2
    injection h1 with h1
    rw [h1, inl_inj h2]
theorem val_some : ∀ {kvs : List (List L2.Key × V)} {n : List (List Int)} {ks : List Int}, kvs.map (·.1) = keyI n → (valV kvs (ks.map Sum.inl)).isSome = decide (ks ∈ n)
  | [], [], ks, _ => rfl
  | [], _ :: _, ks, h => by cases h
  | _ :: _, [], ks, h => by cases h
  | (k, v) :: kvs, m :: n, ks, h => by
    unfold keyI at h
    rw [List.map_cons, List.map_cons] at h
    injection h with h1 h2
    have ih := val_some (kvs := kvs) (n := n) (ks := ks) h2
    have h1 : k = m.map Sum.inl := h1
    subst h1
    by_cases e : ks = m
    · subst e
      rw [decide_eq_true List.mem_cons_self, valV_pos rfl]
      rfl
    · rw [valV_neg (fun z => e (inl_inj z).symm), ih]
      by_cases e2 : ks ∈ n
      · rw [decide_eq_true e2, decide_eq_true (List.mem_cons_of_mem _ e2)]
      · rw [decide_eq_false e2, decide_eq_false (fun z => by
          rcases List.mem_cons.mp z with z | z
          · exact e z
          · exact e2 z)]
section
variable {K : Frg} {d : Addr} {Ec : EC} {te : TE} {fe : SEg (List (List Int))} {P : List Addr} {s : SD} {n : List (List Int)} {σ : L2.St} {H : Hp}
theorem Rel.dictAt (r : Rel (tpK K d) P s n σ H) {i k : Nat} (h : s[i]? = some (.gh k)) : σ[i]? = some (some (.ref d)) := by
  obtain ⟨a, ha, hs⟩ := r.gs i k h
  have : (if k = 0 then some d else none) = some a := ha
  split at this
  · rw [hs, Option.some.inj this]
  · cases this
theorem row_tup {F : Hp} {v : V} {x : D} {ks : List Int} (r : Rp K F v x) (h : rowOf x = some ks) : ∃ b, v = .ref b ∧ F b = some (.tup (ks.map V.int)) := by
  rw [rowOf_eq h] at r
  unfold rowD at r
  cases r with
  | tup e ra =>
    rw [ra.ints_inv] at e
    exact ⟨_, rfl, e⟩
/-- e not in d -/
def sNoKey (fe : SEg (List (List Int))) (i : Nat) : SEg (List (List Int)) := fun s n => match s[i]? with
  | some (.gh _) => bindE (fe s n) fun x n1 => match rowOf x with
    | some ks => .ok (.bl (decide (ks ∉ n1)), n1)
    | none => .no
  | _ => .no
theorem sim_noKey (i : Nat) (he : SimE (tpK K d) Ec te fe) : SimE (tpK K d) Ec (tDNotIn te (tVar i)) (sNoKey fe i) := fun P s n σ H r Q hq => by
  unfold sNoKey at hq
  split at hq
  · rename_i k e
    refine he P s n σ H r _ (hq.bind fun x n1 v H1 r1 e1 rv q1 => ⟨.ref d, r.dictAt e, ?_⟩)
    obtain ⟨kvs, h1, h2⟩ := r1.iv
    split at q1
    · rename_i ks ek
      obtain ⟨b, rfl, hb⟩ := row_tup rv ek
      have hb := Fz_sub _ _ _ _ hb
      have g := DGet.t (k := ks.map Sum.inl) h1 (by rw [kV_ints]; exact hb)
      refine ⟨d, _, rfl, g, ?_⟩
      have ev := val_some (ks := ks) h2
      rw [ev]
      have eb : (!decide (ks ∈ n1)) = decide (ks ∉ n1) := by
        by_cases z : ks ∈ n1 <;> simp [z]
      rw [eb]
      exact q1 _ H1 r1 (SameT.refl _ _) (.bl _)
    · exact False.elim q1
  · exact False.elim hq
theorem BRel.keys {B : Hp} {P0 : List Addr} {m : Nat} {p : Addr} {kvs : List (List L2.Key × V)} (b : BRel (tp0 Nat K) B P0 P s m σ H) (np : H p = none) (hk : kvs.map (·.1) = keyI n) (i : Nat) : BRel (tpK K p) B P0 (p :: P) (s.set i (.gh 0)) n (σ.set i (some (.ref p))) (L2.upd H p (.dT kvs)) := by
  have r1 : Rel (tp0 Nat K) (p :: P) s m σ (L2.upd H p (.dT kvs)) := b.rel.more (fun a o _ h => same_new np a o h) (fun _ => trivial) (fun _ h => False.elim h) np upd_same
  have bp : B p = none := b.sm.free np
  have nep : ∀ (j : Nat) (es : List D), s[j]? = some (.ow es) → σ[j]? ≠ some (some (.ref p)) := fun j es h1 h2 => by
    obtain ⟨q', ys, g1, g2, g3, g4⟩ := b.rel.ow j es h1
    rw [h2] at g1
    cases g1
    rw [np] at g3
    cases g3
  have nt : ∀ j k : Nat, s[j]? ≠ some (.gh k) := fun j k h => by
    obtain ⟨a, ha, _⟩ := b.rel.gs j k h
    cases ha
  have sm : Same B (L2.upd H p (.dT kvs)) := b.sm.trans (same_new np)
  have fin : ∀ (s' : SD) (σ' : L2.St), s'.length = σ'.length → (∀ (j : Nat) (x : SV), s'[j]? = some x → (x ≠ .gh 0 → s[j]? = some x ∧ σ'[j]? = σ[j]?) ∧ (x = .gh 0 → σ'[j]? = some (some (.ref p)))) → BRel (tpK K p) B P0 (p :: P) s' n σ' (L2.upd H p (.dT kvs)) := fun s' σ' hl hx => by
    have im : ∀ (j : Nat) (x : SV), x ≠ .gh 0 → s'[j]? = some x → s[j]? = some x ∧ σ'[j]? = σ[j]? := fun j x h1 h2 => (hx j x h2).1 h1
    refine ⟨⟨hl, fun j d h => ?_, fun j ds h => ?_, fun j k ds es q h1 h2 h3 h4 => ?_, fun j h => ?_, fun j k h => ?_, fun a h => ?_, ⟨kvs, upd_same, hk⟩, r1.pin⟩, sm, fun a h => List.mem_cons_of_mem _ (b.sub a h), fun a h => ?_, fun j ds q h1 h2 => ?_, fun a h => ?_⟩
    · obtain ⟨q1, q2⟩ := im j _ (fun z => by cases z) h
      rw [q2]
      exact r1.im j d q1
    · obtain ⟨q1, q2⟩ := im j _ (fun z => by cases z) h
      rw [q2]
      exact r1.ow j ds q1
    · obtain ⟨q1, q2⟩ := im j _ (fun z => by cases z) h1
      obtain ⟨q3, q4⟩ := im k _ (fun z => by cases z) h2
      rw [q2] at h3
      rw [q4] at h4
      exact r1.inj j k ds es q q1 q3 h3 h4
    · obtain ⟨q1, q2⟩ := im j _ (fun z => by cases z) h
      obtain ⟨a, ha, _⟩ := b.rel.tw j q1
      cases ha
    · by_cases z : k = 0
      · subst z
        exact ⟨p, rfl, (hx j _ h).2 rfl⟩
      · obtain ⟨q1, q2⟩ := im j _ (fun y => z (by injection y)) h
        exact absurd q1 (nt j k)
    · cases (show a = p from h)
      refine ⟨List.mem_cons_self, fun j ds hj => ?_⟩
      obtain ⟨q1, q2⟩ := im j _ (fun z => by cases z) hj
      rw [q2]
      exact nep j ds q1
    · rcases List.mem_cons.mp h with rfl | h
      · exact .inr bp
      · exact b.new a h
    · obtain ⟨q1, q2⟩ := im j _ (fun z => by cases z) h1
      rw [q2] at h2
      exact b.own j ds q q1 h2
    · cases (show a = p from h)
      exact bp
  by_cases hi : i < s.length
  · have hi2 : i < σ.length := by rw [← b.rel.len]; exact hi
    refine fin _ _ (by rw [List.length_set, List.length_set]; exact b.rel.len) fun j x h => ?_
    rw [get_set s i (.gh 0) j hi] at h
    rw [get_set σ i _ j hi2]
    split at h
    · cases h
      exact ⟨fun z => absurd rfl z, fun _ => if_pos ‹_›⟩
    · exact ⟨fun _ => ⟨h, if_neg ‹_›⟩, fun z => by subst z; exact absurd h (nt j 0)⟩
  · rw [List.set_eq_of_length_le (by omega), List.set_eq_of_length_le (by rw [← b.rel.len]; omega)]
    exact fin s σ b.rel.len fun j x h => ⟨fun _ => ⟨h, rfl⟩, fun z => by subst z; exact absurd h (nt j 0)⟩

/-- one = line.pop() -/
def sPop {τ : Type} (j i : Nat) : SSg τ := fun s n => match s[i]? with
  | some (.ow ds) => match ds[ds.length - 1]? with
    | some d => .nx ((s.set i (.ow ds.dropLast)).set j (.im d)) n
    | none => .no
  | _ => .no
theorem sim_pop {τ : Type} {tp : Tp τ} (j i : Nat) : SimS tp Ec (tAsg (tBM0 K "list" rPop (tVar i)) (gName j)) (sPop j i) := fun B P0 P s n σ H b L hq => by
  unfold sPop at hq
  split at hq
  · rename_i ds e
    obtain ⟨p, xs, h1, h2, h3, h4⟩ := b.owAt e
    split at hq
    · rename_i x ex
      obtain ⟨v, hv, rv⟩ := h4.get ex
      rw [← h4.length] at hv
      refine ⟨.ref p, h1, .inl ⟨rfl, xs, .inl (.inl h3)⟩, p, xs, v, rfl, rfl, h3, hv, hq P _ _ ((b.updOw e h1 h4.dropLast).setIm ?_)⟩
      rw [Fz_upd_in h2]
      exact rv
    · exact False.elim hq
  · exact False.elim hq
/-- d[e] = True, a new key -/
def sKeyPut (i : Nat) (fe : SEg (List (List Int))) : SSg (List (List Int)) := fun s n => match s[i]? with
  | some (.gh _) => bindS (fe s n) fun x n1 => match rowOf x with
    | some ks => if ks ∉ n1 ∧ n1.length < big then .nx s (n1 ++ [ks]) else .no
    | none => .no
  | _ => .no
theorem sim_keyPut (i : Nat) (he : SimE (tpK K d) Ec te fe) : SimS (tpK K d) Ec (sDPut (tVar i) te (tC (.bl true))) (sKeyPut i fe) := fun B P0 P s n σ H b L hq => by
  unfold sKeyPut at hq
  split at hq
  · rename_i k e
    refine ⟨.ref d, b.rel.dictAt e, he P s n σ H b.rel _ (PostS.bind b hq fun x n1 v H1 b1 e1 rv q1 => ?_)⟩
    obtain ⟨kvs, h1, h2⟩ := b1.rel.iv
    split at q1
    · rename_i ks ek
      split at q1
      · rename_i hb
        obtain ⟨c, rfl, hc⟩ := row_tup rv ek
        have hc := Fz_sub _ _ _ _ hc
        have hlen : kvs.length = n1.length := by
          have := congrArg List.length h2
          unfold keyI at this
          rw [List.length_map, List.length_map] at this
          exact this
        have ev := val_some (ks := ks) h2
        rw [decide_eq_false hb.1] at ev
        have ev : valV kvs (ks.map Sum.inl) = none := by
          cases z : valV kvs (ks.map Sum.inl) with
          | none => rfl
          | some y => rw [z] at ev; cases ev
        refine ⟨d, _, rfl, DPut.t h1 (k := ks.map Sum.inl) (by rw [kV_ints]; exact hc) (by rw [hlen]; exact big_lt hb.2), ?_⟩
        rw [putK_new _ ev]
        have es : SameT (tpK K d) H1 (upd H1 d (.dT (kvs ++ [(ks.map Sum.inl, .bl true)]))) := fun a o ha h => by
          rw [upd_ne fun z => ha z]
          exact h
        refine q1 P σ _ (b1.grow (b1.rel.keep es ⟨_, upd_same, ?_⟩ fun a ha => ?_) es)
        · unfold keyI at h2 ⊢
          rw [List.map_append, List.map_append, h2]
          rfl
        · cases (show a = d from ha)
          rw [upd_same]
          exact Pn.of rfl (fun _ y => nomatch y)
      · exact False.elim q1
    · exact False.elim q1
  · exact False.elim hq
theorem each_rows : ∀ {ys : List V} {kss : List (List Int)}, (∀ a ∈ P, Pn (H a)) → EachIs (RowAt H) ys kss → RpA K (Fz P H) ys (kss.map rowD)
  | _, _, _, .nil => .nil
  | _, _, pin, .cons ⟨t, e, ht⟩ r => by
    subst e
    refine .cons (.tup (xs := _) ?_ (RpA.ints _)) (each_rows pin r)
    rw [Fz_out fun z => (pin t z).nt _ ht]
    exact ht
/-- sorted(d) -/
def sSortK (i : Nat) : SEg (List (List Int)) := fun s n => match s[i]? with
  | some (.gh _) => if (n.all fun ks => !ks.isEmpty) = true then .ok (.lst ((sortR n).map rowD), n) else .no
  | _ => .no
theorem sim_sortK (i : Nat) : SimE (tpK K d) Ec (tCB (rSortDT K) (tCons (tVar i) tNil)) (sSortK i) := fun P s n σ H r Q hq => by
  unfold sSortK at hq
  split at hq
  · rename_i k e
    split at hq
    · rename_i ha
      obtain ⟨kvs, h1, h2⟩ := r.iv
      refine ⟨.ref d, r.dictAt e, d, kvs, n, rfl, h1, h2, fun ks hk z => ?_, fun ys p each np => ?_⟩
      · have := List.all_eq_true.mp ha ks hk
        rw [z] at this
        cases this
      · exact hq.pure r (same_new np) (.lst (fz_new r.pin np) ((each_rows r.pin each).mono (Fz_mono (same_new np))))
    · exact False.elim hq
  · exact False.elim hq
/-- d, line = ({t: True}, [t]); .. -/
def sKeys (i j a : Nat) (g : SSg (List (List Int))) : SS := fun s _ => match s[a]? with
  | some (.im x) => match rowOf x with
    | some ks => match g ((s.set i (.gh 0)).set j (.ow [x])) [ks] with
      | .rt d _ => .rt d 0
      | .ex c => .ex c
      | _ => .no
    | none => .no
  | _ => .no
theorem sim_keys {g : SSg (List (List Int))} {u : TS} (i j a : Nat) (hai : a ≠ i) (h : ∀ d, SimS (tpK K d) Ec u g) : SimS (tp0 Nat K) Ec (tSeq (tPar i j (tCons (tDisp1 (tVar a) (tC (.bl true))) (tCons (tLst (tCons (tVar a) tNil)) tNil))) u) (sKeys i j a g) := fun B P0 P s m σ H b L hq => by
  unfold sKeys at hq
  split at hq
  · rename_i x e
    split at hq
    · rename_i ks ek
      obtain ⟨v, hv, rv⟩ := b.rel.im a x e
      obtain ⟨c, ec, hc⟩ := row_tup rv ek
      have hc := Fz_sub _ _ _ _ hc
      refine fun p np => ⟨v, hv, upd_same, c, ks.map Sum.inl, ec, ?_, ?_⟩
      · rw [kV_ints, upd_ne (ne_of_none hc np)]
        exact hc
      refine ⟨v, hv, by show 1 ≤ sizeLine; rw [sizeLine_eq]; omega, fun q nq => ⟨_, _, rfl, ?_⟩⟩
      have eu : upd (upd H p (.dT [])) p (.dT [(ks.map Sum.inl, .bl true)]) = upd H p (.dT [(ks.map Sum.inl, .bl true)]) := by
        funext a
        unfold upd
        split <;> rfl
      rw [eu] at nq ⊢
      have b0 := b.keys (n := [ks]) (kvs := [(ks.map Sum.inl, .bl true)]) np rfl i
      have e0 : (s.set i (.gh 0))[a]? = some (.im x) := by rw [List.getElem?_set_ne (Ne.symm hai)]; exact e
      obtain ⟨v', hv', rv'⟩ := b0.rel.im a x e0
      rw [List.getElem?_set_ne (Ne.symm hai), hv] at hv'
      cases hv'
      have b1 := b0.setOw (b0.rel.laid (xs := [v]) nq) (fun a o _ h => same_new nq a o h) nq upd_same (RpA.laid nq (.cons rv' .nil)) j
      refine h p B P0 _ _ _ _ _ b1 L ?_
      cases eg : g ((s.set i (.gh 0)).set j (.ow [x])) [ks] with
      | rt d m => rw [eg] at hq; exact fun v H1 sm _ pin rv => hq v H1 sm trivial pin rv
      | ex c => rw [eg] at hq; exact hq
      | nx _ _ => rw [eg] at hq; exact False.elim hq
      | bk _ _ => rw [eg] at hq; exact False.elim hq
      | ct _ _ => rw [eg] at hq; exact False.elim hq
      | no => rw [eg] at hq; exact False.elim hq
    · exact False.elim hq
  · exact False.elim hq
end
theorem un1 {a : Nat} (h : a + 65 < cLine) : a + 1 < cLine := by omega
theorem un0 {a : Nat} (h : a + 65 < cLine) : a < cLine := by omega
theorem piK {K : Frg} {d : Addr} : PInd (tpK K d) := fun _ _ _ _ h => h
theorem cr_setUK {X : Cx} {K : Frg} {w : World} (hK : X.K = K) (hw : X.w = w) (hc : X.calm = true) : CallR X (.type "set") (rSetU K w) := by
  subst hK hw
  exact cr_setU hc
theorem cr_sortSetUK {X : Cx} {w : World} (hw : X.w = w) (hc : X.calm = true) : CallR X (.builtin "sorted") (rSortSetU w) := by
  subst hw
  exact cr_sortSetU hc
/-! ### x not in (y, z), things of any depth -/
def rNotInT (K : Frg) : R2 := fun x y H Q => ∃ d ds, Dp K H x d ∧ Dp K H y (.tuple ds) ∧ SeqAt.shaped d = true ∧ SeqAt.shaped (.tuple ds) = true ∧ Q (.bl (!ds.any fun z => PyData.eqv z d)) H
theorem op_notInT {X : Cx} (hu : X.A.units + 65 < cLine) : OpR X (compareOp .NotIn) (rNotInT X.K) := by
  intro pins s σ H x y v u Q I rx ry h
  obtain ⟨d, ds, hd, he, sd, se, q⟩ := h
  obtain ⟨as, r1⟩ := Dp.reads I d x v hd rx
  obtain ⟨bs, r2⟩ := Dp.reads I (.tuple ds) y u he ry
  exact SeqAt.notIn_tuple_reads r2 r1 (SeqAt.canLay_of_shaped se) (SeqAt.canLay_of_shaped sd) (room_in_shaped sd hu) ⟨.bl _, H, I, rfl, q⟩
def dNotInT (x y : D) : Option D := match y with
  | .tup ds => if okD x = true ∧ okD (.tup ds) = true then some (.bl (!ds.any fun y => eqD y x)) else none
  | _ => none
theorem s_notInT {K : Frg} : OpS K (rNotInT K) dNotInT := fun P x y d e z H Q pin hx hy hg q => by
  unfold dNotInT at hg
  split at hg
  · rename_i ds
    split at hg
    · rename_i hf
      cases hg
      refine ⟨d.py, pyA ds, hx.dp (Fz_sub P H) (SeqAt.canLay_of_shaped hf.1), hy.dp (Fz_sub P H) (SeqAt.canLay_of_shaped hf.2), hf.1, hf.2, ?_⟩
      rw [any_py d ds]
      exact q _ H (Same.refl H) (.bl _)
    · cases hg
  · cases hg
end G
end

section
set_option Elab.async false
set_option linter.all false
set_option backward.match.sparseCases false
set_option maxRecDepth 100000
/-! what is not reached; a try of several returns; {} -/
namespace G
open L2 L2H PySem PyProof.Rows PySem.Spec HT
/-! ### statements that are not reached -/
section
variable {X : Cx} {τ : Type} {tp : Tp τ} {Ec : EC}
theorem pss_no {b : List Stmt} : PSs X b (fun _ _ _ => False) := ⟨fun _ _ _ _ _ _ h => False.elim h⟩
theorem pe_no {e : Expr} : PE X e (fun _ _ _ => False) := ⟨fun _ _ _ _ _ _ h => False.elim h⟩
def sNoS : SSg τ := fun _ _ => .no
def sNoE : SEg τ := fun _ _ => .no
theorem sim_noS {t : TS} : SimS tp Ec t sNoS := fun _ _ _ _ _ _ _ _ _ h => False.elim h
theorem sim_noE {t : TE} : SimE tp Ec t sNoE := fun _ _ _ _ _ _ _ h => False.elim h
end
section
variable {τ : Type} {tp : Tp τ} {Ec : EC} {mg : Str → Option Value} {P : List Addr} {s : SD} {n n' : τ} {σ : L2.St} {H H' : Hp} {tt : TT} {ft : STg τ} {te tw : TE} {fe fw fa fb : SEg τ} {t u : TS} {tr : TA} {fr : SAg τ}
/-- a slot is forgotten -/
theorem Rel.setUn (r : Rel tp P s n σ H) (j : Nat) (x : Option V) : Rel tp P (s.set j .un) n (σ.set j x) H := by
  have g : ∀ (k : Nat) (y : SV), (s.set j .un)[k]? = some y → y ≠ .un → k ≠ j ∧ s[k]? = some y := fun k y h hy => by
    by_cases z : k = j
    · subst z
      rcases Nat.lt_or_ge k s.length with w | w
      · rw [List.getElem?_set_self w] at h
        exact absurd (Option.some.inj h).symm hy
      · rw [List.getElem?_eq_none (by rw [List.length_set]; exact w)] at h
        cases h
    · rw [List.getElem?_set_ne (Ne.symm z)] at h
      exact ⟨z, h⟩
  have sg : ∀ k, k ≠ j → (σ.set j x)[k]? = σ[k]? := fun k hk => List.getElem?_set_ne (Ne.symm hk)
  refine ⟨by rw [List.length_set, List.length_set]; exact r.len, fun k d h => ?_, fun k ds h => ?_, fun k l ds es p h1 h2 h3 h4 => ?_, fun k h => ?_, fun k l h => ?_, fun a h => ⟨(r.gp a h).1, fun k ds hk => ?_⟩, r.iv, r.pin⟩
  · obtain ⟨z, h⟩ := g k _ h (fun y => nomatch y)
    rw [sg k z]
    exact r.im k d h
  · obtain ⟨z, h⟩ := g k _ h (fun y => nomatch y)
    rw [sg k z]
    exact r.ow k ds h
  · obtain ⟨z1, h1⟩ := g k _ h1 (fun y => nomatch y)
    obtain ⟨z2, h2⟩ := g l _ h2 (fun y => nomatch y)
    rw [sg k z1] at h3
    rw [sg l z2] at h4
    exact r.inj k l ds es p h1 h2 h3 h4
  · obtain ⟨z, h⟩ := g k _ h (fun y => nomatch y)
    rw [sg k z]
    exact r.tw k h
  · obtain ⟨z, h⟩ := g k _ h (fun y => nomatch y)
    rw [sg k z]
    exact r.gs k l h
  · obtain ⟨z, hk⟩ := g k _ hk (fun y => nomatch y)
    rw [sg k z]
    exact (r.gp a h).2 k ds hk
/-- statements that end in a return, told as an expression -/
def SimR (tp : Tp τ) (Ec : EC) (ts : TS) (f : SEg τ) : Prop := ∀ (P : List Addr) (s : SD) (n : τ) (σ : L2.St) (H : Hp), Rel tp P s n σ H → ∀ L : Ends, Post (Rp tp.K) tp Ec P s σ H (f s n) L.rt → ts L σ H
theorem simR_ret (he : SimE tp Ec te fe) : SimR tp Ec (tRet te) fe := fun P s n σ H r L hq => he P s n σ H r L.rt hq
theorem simR_if (h0 : SimT tp Ec tt ft) (h1 : SimR tp Ec t fa) (h2 : SimR tp Ec u fb) : SimR tp Ec (tSeq (tIfS tt t tNext) u) (sIf ft fa fb) := fun P s n σ H r L hq =>
  h0 P s n σ H r _ (hq.bind fun x n1 v H1 g1 e1 r1 q1 => by
    cases (show v = x from r1)
    cases x with
    | true =>
      rw [if_pos rfl]
      exact h1 P s n1 σ H1 g1 _ q1
    | false =>
      rw [if_neg Bool.false_ne_true]
      exact h2 P s n1 σ H1 g1 _ q1)
/-- fs[e](..), fs a row of defs -/
def sPickE (i : Nat) (fw : SEg τ) (gs : List GF) (fr : SAg τ) : SEg τ := fun s n => if i < s.length then (bindE (fw s n) fun d n1 => match d with
  | .int k => match atI gs k with
    | some g => bindE (fr s n1) fun xs n2 => match plain xs with
      | some ds => liftR (g ds) n2
      | none => .no
    | none => .no
  | _ => .no) else .no
theorem pick_core {i : Nat} {W : WX} {fg : List (Addr × GF)} {l : Addr} {Q : VK} (hw : SimE tp (EcX mg i W) tw fw) (hr : SimA tp (EcX mg i W) tr fr) (r : Rel tp P s n σ H) (hl : H l = some (.lst ((fg.map Prod.fst).map V.ref))) (hng : ¬ tp.gh l)
    (hq : Post (Rp tp.K) tp (EcX mg i W) P s σ H (sPickE i fw (fg.map Prod.snd) fr s n) Q) : tw σ H fun y H1 => rIx tp.K (.ref l) y H1 fun v H2 => ∃ f g, v = .ref f ∧ (f, g) ∈ fg ∧ tr σ H2 fun vs H3 => spP tp.K mg g vs H3 Q (WE W σ) := by
  unfold sPickE at hq
  split at hq
  · rename_i hi
    refine hw P s n σ H r _ (hq.bind fun d n1 v H1 r1 e1 rv q1 => ?_)
    cases d with
    | int k =>
      cases rv.int_inv
      have q1 : Post (Rp tp.K) tp (EcX mg i W) P s σ H1 (match atI (fg.map Prod.snd) k with
        | some g => bindE (fr s n1) fun xs n2 => match plain xs with
          | some ds => liftR (g ds) n2
          | none => .no
        | none => .no) Q := q1
      rw [atI_map] at q1
      cases ea : atI fg k with
      | none => rw [ea] at q1; exact False.elim q1
      | some p =>
        rw [ea] at q1
        obtain ⟨f, g⟩ := p
        refine .inl ⟨l, (fg.map Prod.fst).map V.ref, k, .ref f, rfl, rfl, .inl (.inl (e1 _ _ hng hl)), by rw [atI_map, atI_map, ea]; rfl, f, g, rfl, atI_mem ea, ?_⟩
        have q1 : Post (Rp tp.K) tp (EcX mg i W) P s σ H1 (bindE (fr s n1) fun xs n2 => match plain xs with
          | some ds => liftR (g ds) n2
          | none => .no) Q := q1
        refine hr P s n1 σ _ r1 _ (q1.bind fun xs n2 vs H2 r2 e2 rv q2 => ?_)
        cases e : plain xs with
        | none => rw [e] at q2; exact False.elim q2
        | some ds =>
          rw [e] at q2
          refine ⟨P, ds, r2.pin, plain_rp rv e, ?_⟩
          have q2 : Post (Rp tp.K) tp (EcX mg i W) P s σ H2 (liftR (g ds) n2) Q := q2
          cases eg : g ds with
          | ok d => rw [eg] at q2; exact fun v H' sm rd => q2.pure r2 sm rd
          | ex c =>
            rw [eg] at q2
            exact fun H' sm C hC => q2 H' (Same.toT sm) C hC σ (by rw [← r.len]; exact hi)
          | no => rw [eg] at q2; exact q2
    | _ => exact False.elim q1
  · exact False.elim hq
theorem sim_pickE {i : Nat} {W : WX} {fg : List (Addr × GF)} (hlen : fg.length ≤ 1000) (hw : SimE tp (EcX mg i W) tw fw) (hr : SimA tp (EcX mg i W) tr fr) : SimE tp (EcX mg i W) (tPick tp.K mg fg (tOp (rIx tp.K) (tLst (taR (fg.map Prod.fst))) tw) (WE W) tr) (sPickE i fw (fg.map Prod.snd) fr) := fun P s n σ H r Q hq => by
  refine taR_run ⟨?_, fun l nl => ?_⟩
  · rw [List.length_map, List.length_map]
    exact Nat.le_trans hlen (by decide)
  · exact pick_core hw hr (r.grow (same_new nl)) upd_same (fun z => r.gn l z nl) (hq.shift (Same.toT (same_new nl)))
/-- xs = fs; return xs[e](..) -/
def sPickL (i j : Nat) (fw : SEg τ) (gs : List GF) (fr : SAg τ) : SEg τ := fun s n => if j < s.length then sPickE i fw gs fr (s.set j .un) n else .no
theorem simR_pickL {i j : Nat} {W : WX} {fg : List (Addr × GF)} (hlen : fg.length ≤ 1000) (hw : SimE tp (EcX mg i W) tw fw) (hr : SimA tp (EcX mg i W) tr fr) : SimR tp (EcX mg i W) (tSeq (tAsg (tLst (taR (fg.map Prod.fst))) (gName j)) (tRet (tPick tp.K mg fg (tOp (rIx tp.K) (tVar j) tw) (WE W) tr))) (sPickL i j fw (fg.map Prod.snd) fr) := fun P s n σ H r L hq => by
  unfold sPickL at hq
  split at hq
  · rename_i hj
    refine taR_run ⟨?_, fun l nl => ?_⟩
    · rw [List.length_map, List.length_map]
      exact Nat.le_trans hlen (by decide)
    · have hj2 : j < σ.length := by rw [← r.len]; exact hj
      have r0 := r.grow (same_new (o := .lst ((fg.map Prod.fst).map V.ref)) nl)
      refine ⟨.ref l, List.getElem?_set_self hj2, pick_core (Q := L.rt) hw hr (r0.setUn j (some (.ref l))) upd_same (fun z => r.gn l z nl) ?_⟩
      have hq := hq.shift (Same.toT (tp := tp) (same_new (o := .lst ((fg.map Prod.fst).map V.ref)) nl))
      cases e : sPickE i fw (fg.map Prod.snd) fr (s.set j .un) n with
      | ok x =>
        rw [e] at hq
        exact fun v H' hr' e' hv' => hq v H' (r0.keep e' hr'.iv hr'.gn) e' hv'
      | ex c =>
        rw [e] at hq
        exact fun H' e' => hq H' e'
      | no =>
        rw [e] at hq
        exact hq
  · exact False.elim hq
/-- a try around returns -/
def tTry (K : Frg) (cv : Value) (i : Nat) (ok : Nat → Addr → Prop) (Wout : WX) (tb : WX → TS) : TS := fun D σ H => tb (wAs K cv i (fun a cls d => tRet (tCallW ok a cls d i)) Wout D) D σ H
theorem ps_tryR {X : Cx} {x m : Str} {c : Value} {i : Nat} {body suite : List Stmt} {b₀ : Stmt} {np pos pos' : Pos} {tb : WX → TS} {ok : Nat → Addr → Prop} {Wout : WX} (hs : X.stack = X.env :: X.outer) (hf : X.env.frame = some X.env.locals) (hN : X.N.Nodup) (hi : X.N[i]? = some m) (hln : X.env.kindOf m = some .local) (hc : Names X x c) (tk : Takes X Wout)
    (hb : ∀ (W : WX) (pn : List (Addr × Obj)) (xe : Value → Shared → Prop), (∀ q ∈ X.pn, q ∈ pn) → Takes (X.tr pn xe) W → PassesOwn (model X.prog X.w) X.A X.env xe → PSs (X.tr pn xe) body (tb W))
    (hsu : ∀ (a : Addr) (oe : Obj) (cls : Value) (d : Option Addr) (pn : List (Addr × Obj)), Zc cls d oe → (∃ vs, oe.data = .fields vs) → PSs (X.suite a ((a, oe) :: pn)) (b₀ :: suite) (tRet (tCallW ok a cls d i))) :
    PS X (.Try body [.ExceptHandler (some (.Name x np)) (some m) (b₀ :: suite) pos'] [] [] pos) (tTry X.K c i ok Wout tb) := ps_try_asH hs hf hN hi hln hc tk hb hsu
theorem sim_tryR {K : Frg} {cv : Value} {i : Nat} {cs : List Nat} {ok : Nat → Addr → Prop} {Wout : WX} {tb : WX → TS} (hK : tp.K = K) (ha : tp.gh = fun _ => False) (hb : ∀ W, SimR tp (EcX mg i W) (tb W) fe)
    (hx : ∀ c, c ∈ cs → ∀ C, mg (errN c) = some (.ref C) → PySem.W.exmOne K (.ref C) cv = some true ∧ ok c C) :
    SimS tp Ec (tTry K cv i ok Wout tb) (sTry i cs fe) := fun B P0 P s n σ H b L hq => by
  subst hK
  unfold sTry at hq
  split at hq
  · rename_i hi
    refine hb _ P s n σ H b.rel L ?_
    have nt : ∀ {H1 H2 : Hp}, SameT tp H1 H2 → Same H1 H2 := fun e a o h => e a o (by rw [ha]; exact fun z => z) h
    cases e : fe s n with
    | ok x =>
      obtain ⟨d, n1⟩ := x
      rw [e] at hq
      intro v H1 r1 e1 rv
      have b1 := b.grow r1 e1
      exact hq v H1 b1.sm b1.iv0 b1.pin0 (rv.mono (Fz_less b1.sub))
    | ex c =>
      rw [e] at hq
      have hq : PostS tp Ec B P0 (if c ∈ cs then .rt (.tup [.str "raised", .int c]) n else .no) L := hq
      split at hq
      · rename_i hc
        intro H1 e1 C hC σ1 hs1
        obtain ⟨x1, x2⟩ := hx c hc C hC
        refine ⟨true, x1, fun _ a na => ?_, fun z => nomatch z⟩
        refine ⟨?_, c, C, rfl, rfl, x2, fun t H2 sm ht e2 => ?_⟩
        · rw [List.getElem?_set_self hs1]
        · have s2 : Same H H2 := (nt e1).trans sm
          refine hq (.ref t) H2 (b.sm.trans s2) (tp.st n P0 P0 H H2 b.iv0 (fun b o _ h => s2 b o h) (Fz_mono s2)) (fun a' hp0 => ?_) ?_
          · exact (b.pin0 a' hp0).same fun o h => s2 _ o h
          · have nt0 : t ∉ P0 := fun z => by
              have h1 := b.pin0 t z
              cases e3 : H t with
              | none => exact h1 e3
              | some o =>
                rw [(nt e1) _ _ e3] at ht
                cases ht
            exact .tup (by rw [Fz_out nt0]; exact e2) (.cons (.str _) (.cons (.int _) .nil))
      · exact False.elim hq
    | no =>
      rw [e] at hq
      exact hq
  · exact False.elim hq
/-! ### a new climber in a try: refused -/
def WA (i : Nat) (W : WX) : XK := fun cls d H => ∀ σ : L2.St, i < σ.length → W cls d σ H
theorem passA {X : Cx} {W : WX} {i : Nat} (hi : i < X.N.length) (tk : Takes X W) : Passes (L2.CX X.prog X.w) X (WA i W) := fun _ σ _ _ e s' I c => tk e s' (XE.of_call I (fun _ _ _ h => h σ (by rw [I.len]; exact hi)) c)
def sNewX (i : Nat) (gck : List D → R D) (fa : SEg τ) : SEg τ := fun s n => bindE (fa s n) fun d n1 => match gck [d] with
  | .ok _ => .no
  | .ex c => .ex c
  | .no => .no
theorem sim_newX {i : Nat} {W : WX} {C : Addr} {gck : List D → R D} (ha : SimE tp (EcX mg i W) te fa) : SimE tp (EcX mg i W) (tMake C (spI tp.K mg C gck) [] (WA i W) (tCons te tNil)) (sNewX i gck fa) := fun P s n σ H r Q hq =>
  ha P s n σ H r _ (hq.bind fun d n1 v H1 r1 e1 rv q1 => by
    intro x dx nx ndx nxd
    have hx0 : (upd (upd H1 dx (.own x)) x (.ins C dx [])) x = some (.ins C dx []) := upd_same
    have hd0 : (upd (upd H1 dx (.own x)) x (.ins C dx [])) dx = some (.own x) := by rw [upd_ne nxd, upd_same]
    have s0 : Same H1 (upd (upd H1 dx (.own x)) x (.ins C dx [])) := fun b o e => by
      rw [upd_ne (ne_of_none e nx), upd_ne (ne_of_none e ndx)]
      exact e
    have hL : ∀ p ∈ [x, dx], H1 p = none := fun p hp => by
      rcases List.mem_cons.mp hp with z | z
      · rw [z]; exact nx
      · rw [List.mem_singleton.mp z]; exact ndx
    have rA := r1.moreL (L := [x, dx]) s0 hL (fun p hp => by
      rcases List.mem_cons.mp hp with z | z
      · rw [z, hx0]; exact Pn.of rfl (fun _ y => nomatch y)
      · rw [List.mem_singleton.mp z, hd0]; exact Pn.of rfl (fun _ y => nomatch y))
    have fz0 : Same (Fz P H1) (Fz ([x, dx] ++ P) (upd (upd H1 dx (.own x)) x (.ins C dx []))) := fz_moreL hL fun a o _ h => s0 a o h
    refine ⟨[x, dx] ++ P, x, dx, v, d, rfl, hx0, hd0, rA.pin, List.mem_cons_self, rv.mono fz0, ?_⟩
    have q1 : Post (Rp tp.K) tp (EcX mg i W) P s σ H1 (match gck [d] with
      | .ok _ => .no
      | .ex c => .ex c
      | .no => .no) Q := q1
    cases eg : gck [d] with
    | no => rw [eg] at q1; exact False.elim q1
    | ok z0 => rw [eg] at q1; exact False.elim q1
    | ex c =>
      rw [eg] at q1
      exact fun H' sm C' hC => q1 H' (fun a o hg h => sm a o (ne_of_none h nx) (s0 a o h)) C' hC)
/-! ### {} -/
theorem sim_dnew : SimE tp Ec tDNewK (sC (.dct [])) := fun P s n σ H r Q hq p np => by
  refine hq.pure r (same_new np) (.dct (kvs := []) ?_ fun k => by simp [valV])
  rw [Fz_out (r.fresh np)]
  exact upd_same
/-! ### a tuple, several times -/
def dMulT : D → D → Option D
  | .tup (x :: xs), .int k => if okI 1000 k = true ∧ posI (k - 1) = true ∧ xs.length < 999 then some (.tup (List.replicate k.toNat (x :: xs)).flatten) else none
  | _, _ => none
theorem s_mulT {K : Frg} : OpS K (rRepT K) dMulT := fun P x y d e z H Q pin hx hy hg q => by
  unfold dMulT at hg
  split at hg
  · rename_i d0 ds k
    split at hg
    · rename_i h
      cases hg
      obtain ⟨a, ys, rfl, ha, hys⟩ := hx.tup_inv
      cases hy.int_inv
      have h1 := okI_spec h.1
      have h2 := posI_spec h.2.1
      have hl := hys.length
      rw [List.length_cons] at hl
      refine ⟨a, k, ys, rfl, rfl, .inl (.inl (Fz_sub _ _ _ _ ha)), fun z => by rw [z] at hl; simp at hl, by omega, by omega, by omega, fun p np => q _ _ (same_new np) (.tup (fz_new pin np) ?_)⟩
      exact (hys.mono (Fz_mono (same_new np))).flat k.toNat
    · cases hg
  · cases hg
/-! ### list(range(..)), tuple(range(..)) -/
def sRg1 (mk : List D → D) (fa : SEg τ) : SEg τ := fun s n => bindE (fa s n) fun x n1 => match x with
  | .int b => if okI 1000000 b = true then .ok (mk (rgD 0 b), n1) else .no
  | _ => .no
def sRg2 (mk : List D → D) (fa fb : SEg τ) : SEg τ := fun s n => bindE (fa s n) fun x n1 => bindE (fb s n1) fun y n2 => match x with
  | .int a => match y with
    | .int b => if okI 1000000 a = true ∧ okI 1000000 b = true then .ok (mk (rgD a b), n2) else .no
    | _ => .no
  | _ => .no
theorem rgOk_of {a b : Int} (ha : okI 1000000 a = true) (hb : okI 1000000 b = true) : RgOk a b := by
  have h1 := okI_spec ha
  have h2 := okI_spec hb
  exact ⟨by omega, by omega, by omega, by omega, by omega⟩
variable {ta tb : TE}
theorem sim_rgL1 (ha : SimE tp Ec ta fa) : SimE tp Ec (tLstRg (tRg1 ta)) (sRg1 .lst fa) := fun P s n σ H r Q hq =>
  ha P s n σ H r _ (hq.bind fun x n1 v H1 r1 e1 rv q1 => by
    cases x with
    | int b =>
      cases rv.int_inv
      have q1 : Post (Rp tp.K) tp Ec P s σ H1 (if okI 1000000 b = true then .ok (.lst (rgD 0 b), n1) else .no) Q := q1
      split at q1
      · exact ⟨b, rfl, rgOk_of rfl ‹_›, fun q hq' => q1.pure r1 (same_new hq') (.lst (fz_new r1.pin hq') (rgRp 0 b))⟩
      · exact False.elim q1
    | _ => exact False.elim q1)
theorem sim_rgL2 (ha : SimE tp Ec ta fa) (hb : SimE tp Ec tb fb) : SimE tp Ec (tLstRg (tRg2 ta tb)) (sRg2 .lst fa fb) := fun P s n σ H r Q hq =>
  ha P s n σ H r _ (hq.bind fun x n1 v H1 r1 e1 rv q1 => hb P s n1 σ H1 r1 _ (q1.bind fun y n2 u H2 r2 e2 ru q2 => by
    cases x with
    | int a =>
      cases y with
      | int b =>
        cases rv.int_inv
        cases ru.int_inv
        have q2 : Post (Rp tp.K) tp Ec P s σ H2 (if okI 1000000 a = true ∧ okI 1000000 b = true then .ok (.lst (rgD a b), n2) else .no) Q := q2
        split at q2
        · rename_i h
          exact ⟨a, b, rfl, rfl, rgOk_of h.1 h.2, fun q hq' => q2.pure r2 (same_new hq') (.lst (fz_new r2.pin hq') (rgRp a b))⟩
        · exact False.elim q2
      | _ => exact False.elim q2
    | _ => exact False.elim q2))
theorem sim_rgT1 (ha : SimE tp Ec ta fa) : SimE tp Ec (tTupRg (tRg1 ta)) (sRg1 .tup fa) := fun P s n σ H r Q hq =>
  ha P s n σ H r _ (hq.bind fun x n1 v H1 r1 e1 rv q1 => by
    cases x with
    | int b =>
      cases rv.int_inv
      have q1 : Post (Rp tp.K) tp Ec P s σ H1 (if okI 1000000 b = true then .ok (.tup (rgD 0 b), n1) else .no) Q := q1
      split at q1
      · exact ⟨b, rfl, rgOk_of rfl ‹_›, fun q hq' => q1.pure r1 (same_new hq') (.tup (fz_new r1.pin hq') (rgRp 0 b))⟩
      · exact False.elim q1
    | _ => exact False.elim q1)
theorem sim_rgT2 (ha : SimE tp Ec ta fa) (hb : SimE tp Ec tb fb) : SimE tp Ec (tTupRg (tRg2 ta tb)) (sRg2 .tup fa fb) := fun P s n σ H r Q hq =>
  ha P s n σ H r _ (hq.bind fun x n1 v H1 r1 e1 rv q1 => hb P s n1 σ H1 r1 _ (q1.bind fun y n2 u H2 r2 e2 ru q2 => by
    cases x with
    | int a =>
      cases y with
      | int b =>
        cases rv.int_inv
        cases ru.int_inv
        have q2 : Post (Rp tp.K) tp Ec P s σ H2 (if okI 1000000 a = true ∧ okI 1000000 b = true then .ok (.tup (rgD a b), n2) else .no) Q := q2
        split at q2
        · rename_i h
          exact ⟨a, b, rfl, rfl, rgOk_of h.1 h.2, fun q hq' => q2.pure r2 (same_new hq') (.tup (fz_new r2.pin hq') (rgRp a b))⟩
        · exact False.elim q2
      | _ => exact False.elim q2
    | _ => exact False.elim q2))
end
end G
end

section
set_option Elab.async false
set_option linter.all false
set_option backward.match.sparseCases false
set_option maxRecDepth 100000
/-! {key: value for name in row}, the keys tuples of ints -/
namespace G
open L2 PySem PyProof.Rows PySem.Spec
section
variable {X : Cx} {pins : List (Addr × Obj)} {σ : L2.St} {H : Hp} {s : Shared}
/-- a row is stored under a tuple -/
theorem put_row {Er : Value → Shared → Prop} {tb ka : Addr} {rows : List (List L2.Key × V)} {key : List L2.Key} {v : V} {r : Value} {Q : Unit → Shared → Prop} (room : X.A.units < cLine) (iv : Inv X pins σ H s) (ht : H tb = some (.dT rows)) (hk : H ka = some (.tup (key.map kV))) (few : rows.length < sizeLine)
    (rv : RelV v r) (go : ∀ t, Inv X pins σ (upd H tb (.dT (putK rows key v))) t → Q () t) : wpAny (model X.prog X.w) X.A (dictSet tb (.ref ka) r) Q Er s := by
  obtain ⟨len, nosys, laid, rel, at_⟩ := dt_of iv.hok ht
  have few2 : (putK rows key v).length ≤ sizeLine := Nat.le_trans (length_putK rows key v) few
  refine wpAny_dictSet_heap (knd := tupleKind (mixKind X.prog X.w)) (hsz := by rw [← Paired.length rel]; exact len) room (key_of iv.hok hk) at_ fun hp2 at2 same => go _ ?_
  obtain ⟨ob, es, ep, o1, o2, o3, o4, _, o6⟩ := at2
  refine d_write iv (by rw [ht]; exact True.intro) same ⟨ob, o1⟩ ⟨few2, nosys, _, (rel.put key hk rv).keeps fun c ys hc => ?_, ob, es, ep, o1, o2, o3, o4, o6⟩
  rw [upd_ne (ne_of hc ht (fun z => nomatch z))]
  exact hc
/-- what the comprehension asks: tb the new dict, W what holds at each turn -/
def tTab (wi : TI) (g : TG) (tk tv : TE) (vs : List Nat) : TE := fun σ H Q => wi σ H fun J H1 => ∀ tb, H1 tb = none → ∃ W : Nat → Nat → Hp → Prop, (∃ m, W 0 m (upd H1 tb (.dT []))) ∧ ∀ i m H, W i m H →
  (J.stop i H ∧ Q (.ref tb) H) ∨ (J.go i H ∧ ∃ Nx : Hp → Prop, (∀ H', Nx H' → ∃ m', m' < m ∧ W (i + 1) m' H') ∧ ∀ x H', J.yld i H x H' → g x (L2.wipe σ vs) H' fun σ2 H2 => L2.wipe σ2 vs = L2.wipe σ vs ∧
    tk σ2 H2 fun y H4 => tv σ2 H4 fun z H5 => ∃ rows key ka, y = .ref ka ∧ H5 ka = some (.tup (key.map kV)) ∧ H5 tb = some (.dT rows) ∧ rows.length < sizeLine ∧ Nx (upd H5 tb (.dT (putK rows key z))))
/-- a turn's state inside the block Y -/
def AtTurn (Y : Cx) (σ0 : L2.St) (fp : List Addr) (tn : Nat → Heap → Prop) (W : Nat → Nat → Hp → Prop) (n : Nat) (t : Shared) : Prop := ∃ i H', Inv Y [] σ0 H' t ∧ tn i t.heap ∧ (∀ b ∈ fp, H' b = none) ∧ W i n H'
variable {tg iter : Expr} {scope : Scope} {ce : Env} {fp : List Addr} {tn : Nat → Heap → Prop} {J : It} {it : Addr} {s3 : Shared} {H3 : Hp}
/-- inside, what walks is free -/
theorem walks_free {Y : Cx} (hY : Y = X.blk s3 H3 scope ce fp) {σ' : L2.St} {H' : Hp} {t : Shared} (iv : Inv Y [] σ' H' t) (hn : ∀ b ∈ fp, H' b = none) : ∀ b ∈ fp, FpOk Y [] H' b := by
  subst hY
  intro b hb
  refine ⟨hn b hb, (iv.ok.exf b hb).1, iv.ok.exfs b hb, .inl hb, fun x c e => (iv.ok.exf b hb).2 x c e, fun p hp => ?_⟩
  exact nomatch (show p ∈ ([] : List (Addr × Obj)) from hp)
/-- a turn's end: the names are forgotten -/
theorem turn_over {Y : Cx} {σ0 σ8 : L2.St} {vs : List Nat} {t t' : Shared} {H' : Hp} {i n m : Nat} {W : Nat → Nat → Hp → Prop} (T : Turn X.prog X.w X.K tg J fp it tn) (hw : L2.wipe σ8 vs = L2.wipe σ vs) (h0 : σ0 = L2.wipe σ vs) (st : tn (i + 1) t.heap) (iv : Inv Y ([] ++ pinsAt fp t.heap) σ8 H' t') (hm : m < n) (w : W (i + 1) m H') : ∃ m, m < n ∧ AtTurn Y σ0 fp tn W m t' := by
  have held : ∀ b ∈ fp, ∀ o, t.heap.get? b = some o → t'.heap.get? b = some o ∧ H' b = none := fun b hb o e => by
    have q := iv.pin (b, o) (List.mem_append_right _ (List.mem_append_right _ (mem_pinsAt hb e)))
    exact ⟨q.1, q.2.1⟩
  have len : σ0.length = σ8.length := by rw [h0, ← hw, wipe_length]
  refine ⟨m, hm, i + 1, H', (iv.unpinned (pins := [])).weak len (fun j v e => ?_), T.keep _ _ _ st fun b hb o e => (held b hb o e).1, fun b hb => ?_, w⟩
  · rw [h0, ← hw] at e
    exact (wipe_some e).1
  · obtain ⟨o, e, _⟩ := T.obj _ _ st b hb
    exact (held b hb o e).2
end
section
variable {X : Cx}
theorem pe_tab {kx vx tg iter : Expr} {scope : Scope} {own : List (Str × Nat)} {pos : Pos} {wi : TI} {g : TG} {tk tv : TE} (calm : X.calm = true) (nd : X.N.Nodup) (room : X.A.units < cLine) (hi : PI X tg iter wi) (ok : BlkOk X.N X.env.scope scope own)
    (hg : ∀ (s : Shared) (H : Hp) (C : Addr) (cl : List (Str × Addr)) (fp : List Addr), PG (X.blk s H scope (compEnvC scope cl C X.env) fp) tg g)
    (hk : ∀ (s : Shared) (H : Hp) (C : Addr) (cl : List (Str × Addr)) (fp : List Addr), PE (X.blk s H scope (compEnvC scope cl C X.env) fp) kx tk)
    (hv : ∀ (s : Shared) (H : Hp) (C : Addr) (cl : List (Str × Addr)) (fp : List Addr), PE (X.blk s H scope (compEnvC scope cl C X.env) fp) vx tv) (hs : ∀ x, foldedSetIterable iter X.env x = pure x := by intro _; rfl) :
    PE X (.DictComp kx vx [⟨tg, iter, [], 0⟩] scope pos) (tTab wi g tk tv (own.map (·.2))) := by
  refine ⟨fun pins s σ H Q iv asked => ?_⟩
  rw [arm_eval_DictComp]
  have lookups : ∀ y ∈ scope.names, y.2 = .free → ∃ c, X.env.cells.lookup y.1 = some c := fun y hy e =>
    (ok.free y hy e).elim (fun k => iv.ok.has _ (.inl k)) fun k => iv.ok.has _ (.inr k)
  refine wpAny_comprehension_free rfl hs (closure_ok lookups) ok.kind (fun y hy e => (ok.uniq y hy).trans (congrArg some e)) ?_
  refine thn (hi.run pins s σ H _ iv asked) fun row s1 h1 => thn h1 fun walker s2 h2 => ?_
  obtain ⟨it, fp, tn, J, H2, rfl, iv2, T, st2, free2, todo⟩ := h2
  refine wpAny_newObj_type (newEnv_comp ?_)
  -- the new dict lies at the heap's end
  have fresh : H2 s2.heap.objs.size = none := iv2.hok.fresh (Nat.le_refl _)
  obtain ⟨W, ⟨m0, w0⟩, turns⟩ := todo _ fresh
  generalize etb : s2.heap.objs.size = tb at *
  have iv3 : Inv X pins σ (upd H2 tb (.dT [])) { s2 with heap := s2.heap.push { cls := .type "dict", data := .dict #[] } } :=
    iv2.laid (t' := s2.toks) (fun b o e => Heap.get?_push_of_some _ e) (Nat.le_of_eq etb) (by rw [← etb]; exact dt_empty s2.heap iv2.big)
  have old : ∀ b ∈ fp, b < tb := fun b hb => by
    obtain ⟨o, e, _⟩ := T.obj _ _ st2 b hb
    rw [← etb]
    exact Heap.lt_size e
  have grown : ∀ b o, s2.heap.get? b = some o → ({ s2 with heap := s2.heap.push { cls := .type "dict", data := .dict #[] } } : Shared).heap.get? b = some o := fun b o e => Heap.get?_push_of_some _ e
  have size3 : tb < ({ s2 with heap := s2.heap.push { cls := .type "dict", data := .dict #[] } } : Shared).heap.objs.size := by
    rw [← etb]
    show s2.heap.objs.size < (s2.heap.push _).objs.size
    rw [Heap.size_push]
    exact Nat.lt_succ_self _
  generalize e3 : ({ s2 with heap := s2.heap.push { cls := .type "dict", data := .dict #[] } } : Shared) = s3 at iv3 grown size3 ⊢
  have free3 : ∀ b ∈ fp, FpOk X pins (upd H2 tb (.dT [])) b ∧ b < s3.heap.objs.size := fun b hb => by
    refine ⟨⟨?_, (free2 b hb).2⟩, Nat.lt_trans (old b hb) size3⟩
    rw [upd_ne (Nat.ne_of_lt (old b hb))]
    exact (free2 b hb).1
  have st3 : tn 0 s3.heap := T.keep _ _ _ st2 fun b _ o e => grown b o e
  generalize eH : upd H2 tb (.dT []) = H3 at iv3 w0 free3
  -- the block
  have iv4 := block_start iv3 ok nd free3
  have pg := hg s3 H3 s3.heap.objs.size (cellsFrom (s3.heap.objs.size + 1) scope.names (cloFrom X.env.cells scope.names [])) fp
  have pk := hk s3 H3 s3.heap.objs.size (cellsFrom (s3.heap.objs.size + 1) scope.names (cloFrom X.env.cells scope.names [])) fp
  have pv := hv s3 H3 s3.heap.objs.size (cellsFrom (s3.heap.objs.size + 1) scope.names (cloFrom X.env.cells scope.names [])) fp
  have st4 : tn 0 (pushCells (s3.heap.push { cls := .type "dict", data := .dict #[] }) scope.names) := T.keep _ _ _ st3 fun b _ o e => pushCells_keeps _ _ _ _ (Heap.get?_push_of_some _ e)
  show codeAny _ _ (.compStart (.DictComp kx vx [⟨tg, iter, [], 0⟩] scope pos) 0 (.ref it) (.ref tb) (compEnvC scope (cellsFrom (s3.heap.objs.size + 1) scope.names (cloFrom X.env.cells scope.names [])) s3.heap.objs.size X.env)) (compPost (model X.prog X.w) X.A X.xe none _ (.ref tb) s3.heap.objs.size) { s3 with heap := pushCells (s3.heap.push { cls := .type "dict", data := .dict #[] }) scope.names }
  generalize ece : compEnvC scope (cellsFrom (s3.heap.objs.size + 1) scope.names (cloFrom X.env.cells scope.names [])) s3.heap.objs.size X.env = ce at iv4 pg pk pv ⊢
  have eloc : ce.locals = s3.heap.objs.size := by rw [← ece]; rfl
  generalize e4 : ({ s3 with heap := pushCells (s3.heap.push { cls := .type "dict", data := .dict #[] }) scope.names } : Shared) = s4 at iv4 ⊢
  have st4 : tn 0 s4.heap := by rw [← e4]; exact st4
  have loop : codeAny (model X.prog X.w) X.A (.compLoop (.DictComp kx vx [⟨tg, iter, [], 0⟩] scope pos) 0 (.ref it) (.ref tb) ce) (compPost (model X.prog X.w) X.A X.xe none (fun v t => ∃ x H', Inv X pins σ H' t ∧ RelV x v ∧ Q x H') (.ref tb) s3.heap.objs.size) s4 := by
    refine compLoop_anyD (AtTurn (X.blk s3 H3 scope ce fp) (L2.wipe σ (own.map (·.2))) fp tn W) ?_ m0 ⟨0, H3, iv4, st4, fun b hb => (free3 b hb).1.1, w0⟩
    rintro n s5 ⟨i, H5, iv5, st5, none5, w5⟩
    have wf := walks_free rfl iv5 none5
    rcases turns i n H5 w5 with ⟨stop, fin⟩ | ⟨go, Nx, hNx, each⟩
    · refine thnF (T.done (X.blk s3 H3 scope ce fp) rfl rfl rfl calm i [] s5 _ H5 (fun _ _ => False) iv5 wf st5 stop) fun r s6 ⟨er, iv6⟩ => ?_
      subst er
      have back : Inv X pins σ H5 s6 := iv3.call' (ch := fp) iv6.os iv6.base iv6.hok iv6.bare fun b hb => ⟨(free3 b hb).1.2.2.2.1, (free3 b hb).1.2.1, (free3 b hb).1.2.2.2.2.1, (free3 b hb).1.2.2.2.2.2⟩
      have gone : H5 s3.heap.objs.size = none := by
        rw [← eloc]
        exact iv6.free
      obtain ⟨m, hm, _⟩ := iv6.loc
      rw [show (X.blk s3 H3 scope ce fp).env.locals = s3.heap.objs.size from eloc] at hm
      refine ⟨m, hm, fun h'' sb => ?_⟩
      obtain ⟨f0, f1, f2, f3, f4, f5⟩ := iv3.fpOk (Nat.le_refl _) gone
      exact ⟨.ref tb, H5, back.turned (t' := s6.toks) (fun b o hb e => (sb.2 b hb).trans e) f0 f1 f3 f4 f5, rfl, fin⟩
    · refine thnF (T.item (X.blk s3 H3 scope ce fp) rfl rfl rfl calm i [] s5 _ H5 (fun _ _ => False) iv5 wf st5 go) fun r s6 ⟨u, er, h6⟩ => ?_
      subst er
      refine thnF h6 fun _ s7 ⟨x, H7, iv7, r7, y7, st7, none7⟩ => ?_
      refine thnF (pg.run _ s7 _ H7 x u _ (iv7.pinned (walks_free rfl iv7 none7) (T.obj _ _ st7)) r7 (each x H7 y7)) fun _ s8 ⟨σ8, H8, iv8, hw, q8⟩ => ?_
      refine thnF ((pts_nil (X := X.blk s3 H3 scope ce fp)).run _ s8 σ8 H8 (fun b H9 => b = true ∧ H9 = H8) iv8 ⟨rfl, rfl⟩) fun b s9 ⟨H9, iv9, eb, eH9⟩ => ?_
      subst eb eH9
      rw [if_pos rfl]
      refine thnF (pk.run _ s9 σ8 H9 _ iv9 q8) fun kv s10 ⟨yk, H10, iv10, r10, q10⟩ => ?_
      refine thnF (pv.run _ s10 σ8 H10 _ iv10 q10) fun vv s11 ⟨yv, H11, iv11, r11, rows, key, ka, ek, hka, htb, few, nx⟩ => ?_
      subst ek
      obtain rfl : kv = Value.ref ka := r10
      obtain ⟨m', hm', w'⟩ := hNx _ nx
      exact put_row (X := X.blk s3 H3 scope ce fp) room iv11 htb hka few r11 fun s12 iv12 => turn_over (X := X) T hw rfl st7 iv12 hm' w'
  exact codeAny_compStart_dict loop (T.self X.A 0 _ _ _ st4 loop)
end
section
variable {τ : Type} {tp : Tp τ} {Ec : EC} {te : TE} {fe : SEg τ}
theorem compR_ex {tg : SG} {ft : STg τ} {fe : SEg τ} {s : SD} : ∀ (ds : List D) (n : τ) (c : Nat), compR tg ft fe s ds n ≠ .ex c
  | [], n, c, h => nomatch h
  | d :: ds, n, c, h => by
    unfold compR at h
    cases e1 : tg d s with
    | none => rw [e1] at h; cases h
    | some s1 =>
      rw [e1] at h
      dsimp only at h
      cases e2 : ft s1 n with
      | ex c => rw [e2] at h; cases h
      | no => rw [e2] at h; cases h
      | ok x =>
        rw [e2] at h
        obtain ⟨b, n1⟩ := x
        cases b with
        | false => exact compR_ex ds n1 c h
        | true =>
          have h : bindE (noEx (fe s1 n1)) (fun y n2 => bindE (compR tg ft fe s ds n2) fun ys n3 => .ok (y :: ys, n3)) = .ex c := h
          cases e3 : fe s1 n1 with
          | ex c => rw [e3] at h; cases h
          | no => rw [e3] at h; cases h
          | ok x =>
            rw [e3] at h
            obtain ⟨y, n2⟩ := x
            have h : bindE (compR tg ft fe s ds n2) (fun ys n3 => R.ok (y :: ys, n3)) = .ex c := h
            cases e4 : compR tg ft fe s ds n2 with
            | ex c' => exact compR_ex ds n2 c' e4
            | no => rw [e4] at h; cases h
            | ok x => rw [e4] at h; cases h
def tupI : D → Option (List Int)
  | .tup ks => intsD ks
  | _ => none
def lstI : D → Option (List Int)
  | .lst ks => intsD ks
  | _ => none
/-- the table of keys and values, no key twice -/
def tabGo (acc : List (List Int × List Int)) : List D → List D → Option (List (List Int × List Int))
  | [], [] => some acc
  | d :: ds, y :: ys => match tupI d, lstI y with
    | some k, some v => if (acc.any fun p => decide (p.1 = k)) = true then none else tabGo (acc ++ [(k, v)]) ds ys
    | _, _ => none
  | _, _ => none
def sTab (it : SIg τ) (j : Nat) (fe : SEg τ) : SEg τ := fun s n => bindE (it s n) fun ds n1 => if ds.length < big ∧ j < s.length then bindE (compR (gN j) sYes fe (wipeD s [j]) ds n1) fun ys n2 => match tabGo [] ds ys with
  | some tab => .ok (.dtb tab, n2)
  | none => .no else .no
theorem tupI_eq {d : D} {k : List Int} (h : tupI d = some k) : d = .tup (k.map D.int) := by
  cases d <;> first | (cases h; done) | (rw [intsD_eq h])
theorem lstI_eq {d : D} {k : List Int} (h : lstI d = some k) : d = .lst (k.map D.int) := by
  cases d <;> first | (cases h; done) | (rw [intsD_eq h])
abbrev RowOk (F : Hp) (p : List L2.Key × V) (t : List Int × List Int) : Prop := p.1 = t.1.map Sum.inl ∧ ∃ b, p.2 = .ref b ∧ F b = some (.lst (t.2.map V.int))
theorem row_any {F : Hp} {k : List Int} : ∀ {kvs : List (List L2.Key × V)} {tab : List (List Int × List Int)}, Paired (RowOk F) kvs tab → (kvs.any fun p => decide (p.1 = (k.map Sum.inl : List L2.Key))) = (tab.any fun p => decide (p.1 = k))
  | _, _, .nil => rfl
  | p :: _, t :: _, .cons h r => by
    rw [List.any_cons, List.any_cons, row_any r]
    congr 1
    rw [h.1]
    refine decide_eq_decide.mpr ⟨fun e => ?_, fun e => by rw [e]⟩
    exact (List.map_inj_right (fun a b z => Sum.inl.inj z)).mp e
theorem row_val {F : Hp} {k : List Int} : ∀ {kvs : List (List L2.Key × V)} {tab : List (List Int × List Int)}, Paired (RowOk F) kvs tab → ∀ {t : List Int × List Int}, (tab.find? fun p => decide (p.1 = k)) = some t → ∃ b, valV kvs (k.map Sum.inl) = some (.ref b) ∧ F b = some (.lst (t.2.map V.int))
  | _, _, .nil, _, h => nomatch h
  | p :: _, t :: rest, .cons h r, t', e => by
    by_cases hk : t.1 = k
    · have e0 : (t :: rest).find? (fun (p : List Int × List Int) => decide (p.1 = k)) = some t := List.find?_cons_of_pos (decide_eq_true hk)
      cases e0.symm.trans e
      obtain ⟨b, h1, h2⟩ := h.2
      refine ⟨b, ?_, h2⟩
      rw [valV_pos (by rw [h.1, hk]), h1]
    · rw [List.find?_cons_of_neg (by simp [hk])] at e
      obtain ⟨b, h1, h2⟩ := row_val r e
      refine ⟨b, ?_, h2⟩
      rw [valV_neg (fun z => hk ((List.map_inj_right (fun a b z => Sum.inl.inj z)).mp (h.1.symm.trans z)))]
      exact h1
theorem keys_kV (k : List Int) : (k.map (Sum.inl : Int → L2.Key)).map kV = k.map V.int := by
  rw [List.map_map]
  rfl
theorem sim_tab {wi : TI} {it : SIg τ} (j : Nat) (hi : SimI tp Ec wi it) (he : SimE tp Ec0 te fe) : SimE tp Ec (tTab wi (gName j) (tVar j) te [j]) (sTab it j fe) := fun P s n σ H r Q hq =>
  hi P s n σ H r _ (hq.bind fun ds n1 J H1 r1 e1 hJ q1 => by
    intro Dl hD
    by_cases hc : ds.length < big ∧ j < s.length
    rotate_left
    · rw [if_neg hc] at q1
      exact False.elim q1
    rw [if_pos hc] at q1
    obtain ⟨hbig, hj⟩ := hc
    cases ec : compR (gN j) sYes fe (wipeD s [j]) ds n1 with
    | ex c => exact absurd ec (compR_ex _ _ _)
    | no => rw [ec] at q1; exact False.elim q1
    | ok x =>
    obtain ⟨ys, n'⟩ := x
    rw [ec] at q1
    cases et : tabGo [] ds ys with
    | none =>
      have q1 : Post (Rp tp.K) tp Ec P s σ H1 (match tabGo [] ds ys with | some tab => .ok (.dtb tab, n') | none => .no) Q := q1
      rw [et] at q1
      exact False.elim q1
    | some tab =>
    have q1 : Post (Rp tp.K) tp Ec P s σ H1 (match tabGo [] ds ys with | some tab => .ok (.dtb tab, n') | none => .no) Q := q1
    rw [et] at q1
    have nP : Dl ∉ P := r1.fresh hD
    have nt : ¬ tp.gh Dl := fun z => r1.gn Dl z hD
    have inD : Dl ∈ Dl :: P := List.mem_cons_self
    have nOw : ∀ (i : Nat) (es : List D), s[i]? = some (.ow es) → σ[i]? ≠ some (some (.ref Dl)) := fun i es h z => by
      obtain ⟨p, xs, g1, g2, _⟩ := r1.ow i es h
      rw [z] at g1
      cases g1
      exact nP g2
    have fzS : ∀ Hc, SameT tp H1 Hc → Same (Fz P H1) (Fz (Dl :: P) Hc) := fun Hc e a o h => by
      have h1 : a ∉ P := fun z => by
        rw [Fz_in z] at h
        cases h
      rw [Fz_out h1] at h
      have h2 : a ≠ Dl := ne_of_none h hD
      rw [Fz_out (by simp [h1, h2])]
      exact e a o (fun z => h1 (r1.gp a z).1) h
    refine ⟨fun i m Hc => i ≤ ds.length ∧ m = ds.length - i ∧ ∃ acc kvs n ys, Rel tp (Dl :: P) s n σ Hc ∧ SameT tp H1 Hc ∧ Hc Dl = some (.dT kvs) ∧ Paired (RowOk (Fz (Dl :: P) Hc)) kvs acc ∧ kvs.length ≤ i ∧ compR (gN j) sYes fe (wipeD s [j]) (ds.drop i) n = .ok (ys, n') ∧ tabGo acc (ds.drop i) ys = some tab,
      ⟨ds.length, Nat.zero_le _, rfl, [], [], n1, ys, ?_, Same.toT (same_new hD), upd_same, .nil, Nat.le_refl _, ec, et⟩, fun i m Hc hw => ?_⟩
    · have := (r1.laid (xs := []) hD).updFree (o := .dT []) inD nOw nt (fun xs z => by rw [upd_same] at z; cases z)
      rwa [upd_upd] at this
    · obtain ⟨hle, hm, acc, kvs, n2, zs, r2, e2, hl, hx, hacc, hc2, ht2⟩ := hw
      obtain ⟨hgo, hstop⟩ := hJ (Dl :: P) Hc (fzS Hc e2) r2.pin
      by_cases hlt : i < ds.length
      · have hd : ds[i]? = some ds[i] := List.getElem?_eq_getElem hlt
        obtain ⟨go, yl⟩ := hgo i _ hd
        rw [List.drop_eq_getElem_cons hlt] at hc2 ht2
        generalize ds[i] = d at hc2 ht2 yl
        refine .inr ⟨go, fun H' => ∃ acc kvs n ys, Rel tp (Dl :: P) s n σ H' ∧ SameT tp H1 H' ∧ H' Dl = some (.dT kvs) ∧ Paired (RowOk (Fz (Dl :: P) H')) kvs acc ∧ kvs.length ≤ i + 1 ∧ compR (gN j) sYes fe (wipeD s [j]) (ds.drop (i + 1)) n = .ok (ys, n') ∧ tabGo acc (ds.drop (i + 1)) ys = some tab, fun H' hN => ⟨ds.length - (i + 1), by omega, by omega, rfl, hN⟩, fun x H3 hy => ?_⟩
        obtain ⟨s3, rx⟩ := yl x H3 hy
        -- what the mirror says of this turn
        have hc3 : bindE (noEx (fe ((wipeD s [j]).set j (.im d)) n2)) (fun y n3 => bindE (compR (gN j) sYes fe (wipeD s [j]) (ds.drop (i + 1)) n3) fun ys n4 => .ok (y :: ys, n4)) = .ok (zs, n') := hc2
        cases ey : fe ((wipeD s [j]).set j (.im d)) n2 with
        | ex c => rw [ey] at hc3; cases hc3
        | no => rw [ey] at hc3; cases hc3
        | ok y =>
        rw [ey] at hc3
        obtain ⟨y, n3⟩ := y
        have hc3 : bindE (compR (gN j) sYes fe (wipeD s [j]) (ds.drop (i + 1)) n3) (fun ys n4 => .ok (y :: ys, n4)) = .ok (zs, n') := hc3
        cases ec4 : compR (gN j) sYes fe (wipeD s [j]) (ds.drop (i + 1)) n3 with
        | ex c => rw [ec4] at hc3; cases hc3
        | no => rw [ec4] at hc3; cases hc3
        | ok w =>
        rw [ec4] at hc3
        obtain ⟨ws, n5⟩ := w
        cases hc3
        have ht3 : (match tupI d, lstI y with
          | some k, some v => if (acc.any fun p => decide (p.1 = k)) = true then none else tabGo (acc ++ [(k, v)]) (ds.drop (i + 1)) ws
          | _, _ => none) = some tab := ht2
        cases ek : tupI d with
        | none => rw [ek] at ht3; cases ht3
        | some k =>
        cases ev : lstI y with
        | none => rw [ek, ev] at ht3; cases ht3
        | some v =>
        rw [ek, ev] at ht3
        have ht3 : (if (acc.any fun p => decide (p.1 = k)) = true then none else tabGo (acc ++ [(k, v)]) (ds.drop (i + 1)) ws) = some tab := ht3
        by_cases hk : (acc.any fun p => decide (p.1 = k)) = true
        · rw [if_pos hk] at ht3
          cases ht3
        rw [if_neg hk] at ht3
        have edk := tupI_eq ek
        have eyv := lstI_eq ev
        obtain ⟨ka, kxs, rfl, hka, rka⟩ := (edk ▸ rx).tup_inv
        have ekx : kxs = k.map V.int := rka.ints_inv
        have hjl : j < (L2.wipe σ [j]).length := by
          rw [wipe_length, ← r2.len]
          exact hj
        have hg := simG_name (tp := tp) j (fun _ => none) [] (Dl :: P) (wipeD s [j]) ((wipeD s [j]).set j (.im d)) n2 (L2.wipe σ [j]) H3 (.ref ka) d (fun σ2 H2 => L2.wipe σ2 [j] = L2.wipe σ [j] ∧ tVar j σ2 H2 fun yk H4 => te σ2 H4 fun z H5 => ∃ rows key ka, yk = .ref ka ∧ H5 ka = some (.tup (key.map kV)) ∧ H5 Dl = some (.dT rows) ∧ rows.length < sizeLine ∧ ∃ acc kvs n ys, Rel tp (Dl :: P) s n σ (upd H5 Dl (.dT (putK rows key z))) ∧ SameT tp H1 (upd H5 Dl (.dT (putK rows key z))) ∧ (upd H5 Dl (.dT (putK rows key z))) Dl = some (.dT kvs) ∧ Paired (RowOk (Fz (Dl :: P) (upd H5 Dl (.dT (putK rows key z))))) kvs acc ∧ kvs.length ≤ i + 1 ∧ compR (gN j) sYes fe (wipeD s [j]) (ds.drop (i + 1)) n = .ok (ys, n') ∧ tabGo acc (ds.drop (i + 1)) ys = some tab) (((r2.grow s3).wipe [j]).base) rx rfl
        refine hg fun σ2 b4 tch => ⟨wipe_touch tch, ?_⟩
        obtain ⟨u, hu1, hu2⟩ := b4.rel.im j d (List.getElem?_set_self (by rw [← (r2.grow s3).wipe [j] |>.len] at hjl; exact hjl))
        have hu3 : u = .ref ka ∨ True := .inr trivial
        obtain ⟨ka2, kxs2, rfl, hka2, rka2⟩ := (edk ▸ hu2).tup_inv
        have ekx2 : kxs2 = k.map V.int := rka2.ints_inv
        refine ⟨.ref ka2, hu1, ?_⟩
        refine he (Dl :: P) _ n2 σ2 H3 b4.rel _ ?_
        rw [ey]
        intro w H5 r5 e5 rw'
        have r25 : Rel tp (Dl :: P) s n3 σ H5 := (r2.grow s3).keep e5 r5.tpv r5.gn
        have l5 : H5 Dl = some (.dT kvs) := e5 _ _ nt (s3 _ _ hl)
        have x5 : Paired (RowOk (Fz (Dl :: P) H5)) kvs acc := tab_mono ((r2.grow s3).fz e5) (tab_mono (Fz_mono s3) hx)
        have k5 : Fz (Dl :: P) H5 ka2 = some (.tup kxs2) := (r2.grow s3).fz e5 _ _ hka2
        obtain ⟨b, vxs, rfl, hb, rb⟩ := (eyv ▸ rw').lst_inv
        have evx : vxs = v.map V.int := rb.ints_inv
        have hput : putK kvs (k.map Sum.inl) (.ref b) = kvs ++ [(k.map Sum.inl, .ref b)] := by
          unfold putK
          rw [if_neg (by rw [row_any x5]; exact hk)]
        refine ⟨kvs, k.map Sum.inl, ka2, rfl, ?_, l5, ?_, acc ++ [(k, v)], kvs ++ [(k.map Sum.inl, .ref b)], n3, ws, ?_, fun a o ha h => ?_, ?_, ?_, ?_, ec4, ht3⟩
        · rw [keys_kV, ← ekx2]
          exact Fz_sub _ _ _ _ k5
        · exact Nat.lt_of_le_of_lt hacc (big_lt (by omega))
        · exact r25.updFree inD nOw nt (fun xs z => by rw [l5] at z; cases z)
        · rw [upd_ne (ne_of_none h hD)]
          exact e5 _ _ ha (s3 _ _ (e2 a o ha h))
        · rw [upd_same, hput]
        · rw [Fz_upd_in inD]
          exact x5.snoc ⟨rfl, b, rfl, by rw [← evx]; exact hb⟩
        · rw [List.length_append]
          show kvs.length + 1 ≤ i + 1
          omega
      · have ei : i = ds.length := by omega
        subst ei
        rw [List.drop_length] at hc2 ht2
        have hc2 : R.ok (([] : List D), n2) = .ok (zs, n') := hc2
        cases hc2
        have ht2 : some acc = some tab := ht2
        cases ht2
        refine .inl ⟨hstop, q1 _ Hc (r2.join r1 hD) e2 (.dtb (by rw [Fz_out nP]; exact hl) (tab_mono (Fz_less fun a h => List.mem_cons_of_mem _ h) hx))⟩)
/-! ### a value of the table -/
def dTab : D → D → Option D
  | .dtb tab, e => (tupI e).bind fun k => (tab.find? fun p => decide (p.1 = k)).map fun t => .lst (t.2.map D.int)
  | _, _ => none
def rDGet : R2 := fun x y H Q => ∃ a v, x = .ref a ∧ DGet H a y (some v) ∧ Q v H
theorem s_tab {K : Frg} : OpS K rDGet dTab := fun P x y d e z H Q hp hx hy hz hq => by
  cases d with
  | dtb tab =>
    have hz : (tupI e).bind (fun k => (tab.find? fun p => decide (p.1 = k)).map fun t => D.lst (t.2.map D.int)) = some z := hz
    cases ek : tupI e with
    | none => rw [ek] at hz; cases hz
    | some k =>
      rw [ek] at hz
      have hz : ((tab.find? fun p => decide (p.1 = k)).map fun t => D.lst (t.2.map D.int)) = some z := hz
      cases ef : (tab.find? fun p => decide (p.1 = k)) with
      | none => rw [ef] at hz; cases hz
      | some t =>
        rw [ef] at hz
        cases hz
        cases hx with
        | @dtb a kvs _ h1 h2 =>
          obtain ⟨b, g1, g2⟩ := row_val h2 ef
          obtain ⟨ka, kxs, rfl, hka, rka⟩ := (tupI_eq ek ▸ hy).tup_inv
          have ekx : kxs = k.map V.int := rka.ints_inv
          refine ⟨a, .ref b, rfl, ?_, hq _ _ (Same.refl _) (.lst g2 (RpA.ints _))⟩
          rw [← g1]
          refine DGet.t (Fz_sub _ _ _ _ h1) ?_
          rw [keys_kV, ← ekx]
          exact Fz_sub _ _ _ _ hka
  | _ => cases hz
theorem pe_tabAt {X : Cx} {o i : Expr} {pos : Pos} {td ty : TE} (hu : X.A.units + 1 < cLine) (ho : PE X o td) (hi : PE X i ty) (hs : NoSl i) : PE X (.Subscript o i pos) (tOp rDGet td ty) := pe_dget hu ho hi hs
end
end G
end

section
set_option linter.all false
set_option backward.match.sparseCases false
set_option maxRecDepth 100000
namespace Gp
open G PySem
/-- is_integer -/
def f_is_integer : SS := (sRet (sAndV (sIsi "int" (sVar 0)) (sAndV (sNotV (sIsi "bool" (sVar 0))) (sChain dLe dLe (sVar 1) (sVar 0) (sVar 2)))))
def g_is_integer : List D → R D := runP 3 3 f_is_integer
/-- divisor_of -/
def f_divisor_of : SS := (sSeq (sWhile (sTest (sOp dGt (sVar 1) (sC (.int 0)))) (sPar 0 1 (sCons (sVar 1) (sCons (sOp dMod (sVar 0) (sVar 1)) sNil))) FUEL)
  (sRet (sVar 0)))
def g_divisor_of : List D → R D := runP 2 2 f_divisor_of
/-- common_divisor -/
def f_common_divisor : SS := (sSeq (sAsg 1 (sC (.int 0)))
  (sSeq (sFor (nSeq (sVar 0)) (gN 2) (sAsg 1 (sCallP g_divisor_of (sCons (sVar 2) (sCons (sVar 1) sNil)))))
  (sRet (sVar 1))))
def g_common_divisor : List D → R D := runP 3 1 f_common_divisor
/-- least_by -/
def f_least_by : SS := (sSeq (sAsgN 2 (nOp lMul (sLst (sCons (sC .non) sNil)) (sVar 1)))
  (sSeq (sSetIx 2 (sC (.int 0)) (sC (.int 0)))
  (sSeq (sFor (nSeq (sVar 0)) (gN 3) (sFor (nRng1 (sCons (sCallP g_divisor_of (sCons (sVar 3) (sCons (sVar 1) sNil))) sNil)) (gN 4) (sSeq (sPar 5 6 (sCons (sVar 4) (sCons (sC (.int 0)) sNil)))
  (sWhile (sTest (sOp dLt (sVar 6) (sOp dFdiv (sOp dMul (sC (.int 2)) (sVar 1)) (sCallP g_divisor_of (sCons (sVar 3) (sCons (sVar 1) sNil)))))) (sSeq (sAsg 7 (sOp dMod (sOp dAdd (sVar 5) (sVar 3)) (sVar 1)))
  (sSeq (sIfS (sAnd (sTest (sOp dIsNot (sIxOw 2 (sVar 5)) (sC .non))) (sOr (sTest (sOp dIs (sIxOw 2 (sVar 7)) (sC .non))) (sTest (sOp dLt (sOp dAdd (sIxOw 2 (sVar 5)) (sVar 3)) (sIxOw 2 (sVar 7)))))) (sSetIx 2 (sVar 7) (sOp dAdd (sIxOw 2 (sVar 5)) (sVar 3))) sNext)
  (sPar 5 6 (sCons (sVar 7) (sCons (sOp dAdd (sVar 6) (sC (.int 1))) sNil))))) FUEL))))
  (sFrz 2 (sRet (sVar 2))))))
def g_least_by : List D → R D := runP 8 2 f_least_by
/-- reduced -/
def f_reduced : SS := (sSeq (sAsg 1 (sSortSet (sVar 0)))
  (sSeq (sAsg 2 (sOp dIx (sVar 1) (sC (.int 0))))
  (sSeq (sParN 3 4 (nLst (sCons (sVar 2) sNil)) (sCallP g_least_by (sCons (sLst sNil) (sCons (sVar 2) sNil))))
  (sSeq (sFor (nSeq (sSl dSl (sVar 1) (sPart (sC (.int 1))) sNoPart)) (gN 5) (sIfS (sOr (sTest (sOp dIs (sOp dIx (sVar 4) (sOp dMod (sVar 5) (sVar 2))) (sC .non))) (sTest (sOp dGt (sOp dIx (sVar 4) (sOp dMod (sVar 5) (sVar 2))) (sVar 5)))) (sSeq (sApp 3 (sVar 5))
  (sAsg 4 (sCallP g_least_by (sCons (sSlOw 3 (sPart (sC (.int 1))) sNoPart) (sCons (sVar 2) sNil))))) sNext))
  (sFrz 3 (sRet (sCb bTuple (sCons (sVar 3) sNil))))))))
def g_reduced : List D → R D := runP 6 1 f_reduced
/-- is_semigroup -/
def f_is_semigroup : SS := (sSeq (sIfS (sOr (sNot (sTest (sIsi "tuple" (sVar 0)))) (sNot (sTest (sChain dLe dLe (sC (.int 1)) (sCb bLen (sCons (sVar 0) sNil)) (sC (.int 12)))))) (sRet (sC (.bl false))) sNext)
  (sSeq (sIfS (sOr (sNot (sTest (sCb bAll (sCons (sNw (nLc (nSeq (sVar 0)) (gN 1) sYes (sCallP g_is_integer (sCons (sVar 1) (sCons (sC (.int 1)) (sCons (sC (.int 99)) sNil)))) [1])) sNil)))) (sTest (sOp dNe (sCallP g_common_divisor (sCons (sVar 0) sNil)) (sC (.int 1))))) (sRet (sC (.bl false))) sNext)
  (sRet (sOp dEq (sCallP g_reduced (sCons (sVar 0) sNil)) (sVar 0)))))
def g_is_semigroup : List D → R D := runP 2 1 f_is_semigroup
/-- check_semigroup -/
def f_check_semigroup : SS := (sIfS (sNot (sTest (sCallP g_is_semigroup (sCons (sVar 0) sNil)))) (sRaise 0) sNext)
def g_check_semigroup : List D → R D := runP 1 1 f_check_semigroup
/-- limited -/
def f_limited : SS := (sSeq (sAsg 1 (sCallP g_reduced (sCons (sVar 0) sNil)))
  (sSeq (sIfS (sOr (sTest (sOp dGt (sCb bLen (sCons (sVar 1) sNil)) (sC (.int 12)))) (sTest (sOp dGt (sOp dIx (sVar 1) (sUn dNeg (sC (.int 1)))) (sC (.int 99))))) (sRaise 10) sNext)
  (sRet (sVar 1))))
def g_limited : List D → R D := runP 2 1 f_limited
/-- from_numbers -/
def f_from_numbers : SS := (sSeq (sIfS (sOr (sNot (sTest (sIsi "list" (sVar 0)))) (sNot (sTest (sChain dLe dLe (sC (.int 1)) (sCb bLen (sCons (sVar 0) sNil)) (sC (.int 40)))))) (sRaise 2) sNext)
  (sSeq (sIfS (sNot (sTest (sCb bAll (sCons (sNw (nLc (nSeq (sVar 0)) (gN 1) sYes (sCallP g_is_integer (sCons (sVar 1) (sCons (sC (.int 1)) (sCons (sC (.int 99)) sNil)))) [1])) sNil)))) (sRaise 2) sNext)
  (sSeq (sIfS (sTest (sOp dNe (sCallP g_common_divisor (sCons (sVar 0) sNil)) (sC (.int 1)))) (sRaise 6) sNext)
  (sRet (sCallP g_limited (sCons (sVar 0) sNil))))))
def g_from_numbers : List D → R D := runP 2 1 f_from_numbers
/-- has -/
def f_has : SS := (sRet (sAndV (sOp dGe (sVar 1) (sC (.int 0))) (sOp dLe (sOp dIx (sCallP g_least_by (sCons (sVar 0) (sCons (sOp dIx (sVar 0) (sC (.int 0))) sNil))) (sOp dMod (sVar 1) (sOp dIx (sVar 0) (sC (.int 0))))) (sVar 1))))
def g_has : List D → R D := runP 2 2 f_has
/-- contains -/
def f_contains : SS := (sSeq (sDrop (sCallP g_check_semigroup (sCons (sVar 0) sNil)))
  (sSeq (sIfS (sNot (sTest (sCallP g_is_integer (sCons (sVar 1) (sCons (sC (.int 0)) (sCons (sC (.int 99999)) sNil)))))) (sRaise 1) sNext)
  (sRet (sCallP g_has (sCons (sVar 0) (sCons (sVar 1) sNil))))))
def g_contains : List D → R D := runP 2 2 f_contains
/-- gap_list -/
def f_gap_list : SS := (sSeq (sAsg 1 (sOp dIx (sVar 0) (sC (.int 0))))
  (sSeq (sAsgN 2 (nLst sNil))
  (sSeq (sFor (nEnumU (sCons (sCallP g_least_by (sCons (sVar 0) (sCons (sVar 1) sNil))) sNil)) (gT [3, 4]) (sExt 2 (nR3 (sCons (sVar 3) (sCons (sVar 4) (sCons (sVar 1) sNil))))))
  (sFrz 2 (sRet (sCb bSorted (sCons (sVar 2) sNil)))))))
def g_gap_list : List D → R D := runP 5 1 f_gap_list
/-- greatest_of -/
def f_greatest_of : SS := (sRet (sOp dSub (sCb bMax (sCons (sCallP g_least_by (sCons (sVar 0) (sCons (sOp dIx (sVar 0) (sC (.int 0))) sNil))) sNil)) (sOp dIx (sVar 0) (sC (.int 0)))))
def g_greatest_of : List D → R D := runP 1 1 f_greatest_of
/-- gaps -/
def f_gaps : SS := (sSeq (sDrop (sCallP g_check_semigroup (sCons (sVar 0) sNil)))
  (sRet (sCallP g_gap_list (sCons (sVar 0) sNil))))
def g_gaps : List D → R D := runP 1 1 f_gaps
/-- genus -/
def f_genus : SS := (sSeq (sDrop (sCallP g_check_semigroup (sCons (sVar 0) sNil)))
  (sRet (sCb bLen (sCons (sCallP g_gap_list (sCons (sVar 0) sNil)) sNil))))
def g_genus : List D → R D := runP 1 1 f_genus
/-- greatest_gap -/
def f_greatest_gap : SS := (sSeq (sDrop (sCallP g_check_semigroup (sCons (sVar 0) sNil)))
  (sRet (sCallP g_greatest_of (sCons (sVar 0) sNil))))
def g_greatest_gap : List D → R D := runP 1 1 f_greatest_gap
/-- _law_cell_at -/
def f__law_cell_at : SS := (sSeq (sIfS (sTest (sOp dLt (sVar 1) (sCb bLen (sCons (sVar 0) sNil)))) (sRet (sOp dIx (sVar 0) (sVar 1))) sNext)
  (sSeq (sIfS (sTest (sOp dEq (sVar 0) (sLst sNil))) (sRet (sC (.int 0))) sNext)
  (sSeq (sAsg 2 (sOp dIx (sVar 0) (sOp dMod (sVar 1) (sCb bLen (sCons (sVar 0) sNil)))))
  (sSeq (sFor (nRng1 (sCons (sCb bMin (sCons (sOp dFdiv (sVar 1) (sCb bLen (sCons (sVar 0) sNil))) (sCons (sC (.int 60)) sNil))) sNil)) (gN 3) (sAsg 2 (sOp dFdiv (sVar 2) (sC (.int 1000003)))))
  (sRet (sOp dAdd (sOp dAdd (sOp dMul (sOp dIx (sVar 0) (sOp dMod (sVar 1) (sCb bLen (sCons (sVar 0) sNil)))) (sC (.int 31))) (sVar 1)) (sOp dMul (sVar 2) (sC (.int 101)))))))))
def g__law_cell_at : List D → R D := runP 4 2 f__law_cell_at
/-- _law_mixed -/
def f__law_mixed : SS := (sSeq (sAsg 3 (sOp dMod (sOp dAdd (sOp dAdd (sOp dMul (sCallP g__law_cell_at (sCons (sVar 0) (sCons (sVar 1) sNil))) (sC (.int 1103515245))) (sOp dMul (sC (.int 7919)) (sVar 1))) (sC (.int 12345))) (sC (.int 2147483647))))
  (sRet (sOp dMod (sOp dMod (sOp dMod (sOp dPow (sVar 3) (sC (.int 5))) (sC (.int 2147483647))) (sC (.int 999983))) (sVar 2))))
def g__law_mixed : List D → R D := runP 4 3 f__law_mixed
/-- _law_draw -/
def f__law_draw : SS := (sSeq (sTick 1)
  (sRet (sCallP g__law_mixed (sCons (sVar 0) (sCons (sLenOw 1) (sCons (sVar 2) sNil))))))
def g__law_draw : List AV → Nat → R (D × Nat) := runT 3 3 f__law_draw
/-- _law_same_number -/
def f__law_same_number : SS := (sRet (sAndV (sIsi "int" (sVar 0)) (sAndV (sNotV (sIsi "bool" (sVar 0))) (sOp dEq (sVar 0) (sVar 1)))))
def g__law_same_number : List D → R D := runP 2 2 f__law_same_number
/-- _law_same_truth -/
def f__law_same_truth : SS := (sRet (sAndV (sIsi "bool" (sVar 0)) (sOp dEq (sVar 0) (sVar 1))))
def g__law_same_truth : List D → R D := runP 2 2 f__law_same_truth
/-- _law_sieve -/
def f__law_sieve : SS := (sSeq (sAsgN 2 (nLst (sCons (sC (.bl true)) sNil)))
  (sSeq (sFor (nRng2 (sCons (sC (.int 1)) (sCons (sOp dAdd (sVar 1) (sC (.int 1))) sNil))) (gN 3) (sApp 2 (sOp dIn (sC (.bl true)) (sNw (nLc (nSeq (sVar 0)) (gN 4) sYes (sAndV (sOp dGe (sVar 3) (sVar 4)) (sIxOw 2 (sOp dSub (sVar 3) (sVar 4)))) [4])))))
  (sFrz 2 (sRet (sVar 2)))))
def g__law_sieve : List D → R D := runP 5 2 f__law_sieve
/-- _law_holes -/
def f__law_holes : SS := (sSeq (sAsg 1 (sC (.int 64)))
  (sWhile (sTest (sC (.bl true))) (sSeq (sAsg 2 (sCallP g__law_sieve (sCons (sVar 0) (sCons (sVar 1) sNil))))
  (sSeq (sAsg 3 (sC (.int 0)))
  (sSeq (sFor (nRng1 (sCons (sOp dAdd (sVar 1) (sC (.int 1))) sNil)) (gN 4) (sSeq (sAsg 3 (sIf (sTest (sOp dIx (sVar 2) (sVar 4))) (sOp dAdd (sVar 3) (sC (.int 1))) (sC (.int 0))))
  (sIfS (sTest (sOp dEq (sVar 3) (sCb bMin (sCons (sVar 0) sNil)))) (sRet (sNw (nLc (nRng1 (sCons (sVar 4) sNil)) (gN 5) (sNot (sTest (sOp dIx (sVar 2) (sVar 5)))) (sVar 5) [5]))) sNext)))
  (sAsg 1 (sOp dMul (sC (.int 2)) (sVar 1)))))) FUEL))
def g__law_holes : List D → R D := runP 6 1 f__law_holes
/-- _law_least_set -/
def f__law_least_set : SS := (sSeq (sAsgN 1 (nLst sNil))
  (sSeq (sFor (nSeq (sSortSet (sVar 0))) (gN 2) (sIfS (sThawT 1 (sOr (sTest (sOp dEq (sVar 1) (sLst sNil))) (sNot (sTest (sOp dIx (sCallP g__law_sieve (sCons (sVar 1) (sCons (sVar 2) sNil))) (sVar 2)))))) (sApp 1 (sVar 2)) sNext))
  (sFrz 1 (sRet (sCb bTuple (sCons (sVar 1) sNil))))))
def g__law_least_set : List D → R D := runP 3 1 f__law_least_set
/-- _law_gcd -/
def f__law_gcd : SS := (sSeq (sAsg 1 (sC (.int 0)))
  (sSeq (sFor (nSeq (sVar 0)) (gN 2) (sSeq (sWhile (sTest (sOp dGt (sVar 1) (sC (.int 0)))) (sPar 2 1 (sCons (sVar 1) (sCons (sOp dMod (sVar 2) (sVar 1)) sNil))) FUEL)
  (sAsg 1 (sVar 2))))
  (sRet (sVar 1))))
def g__law_gcd : List D → R D := runP 3 1 f__law_gcd
/-- _law_numbers -/
def f__law_numbers : SS := (sSeq (sAsgN 4 (nLc (nRng1 (sCons (sOp dAdd (sC (.int 1)) (sCallT g__law_draw (sCons (sVar 0) (sConsTw 1 (sCons (sVar 3) sNil))))) sNil)) (gN 5) sYes (sOp dAdd (sC (.int 1)) (sCallT g__law_draw (sCons (sVar 0) (sConsTw 1 (sCons (sVar 2) sNil))))) [5]))
  (sSeq (sWhile (sThawT 4 (sTest (sOp dNe (sCallP g__law_gcd (sCons (sVar 4) sNil)) (sC (.int 1))))) (sApp 4 (sIf (sTest (sOp dLt (sLenOw 4) (sC (.int 20)))) (sOp dAdd (sC (.int 1)) (sCallT g__law_draw (sCons (sVar 0) (sConsTw 1 (sCons (sVar 2) sNil))))) (sC (.int 1)))) FUEL)
  (sFrz 4 (sRet (sVar 4)))))
def g__law_numbers : List AV → Nat → R (D × Nat) := runT 6 4 f__law_numbers
/-- least_elements -/
def f_least_elements : SS := (sSeq (sDrop (sCallP g_check_semigroup (sCons (sVar 0) sNil)))
  (sSeq (sIfS (sNot (sTest (sCallP g_is_integer (sCons (sVar 1) (sCons (sC (.int 1)) (sCons (sC (.int 999)) sNil)))))) (sRaise 1) sNext)
  (sSeq (sIfS (sNot (sTest (sCallP g_has (sCons (sVar 0) (sCons (sVar 1) sNil))))) (sRaise 5) sNext)
  (sRet (sCallP g_least_by (sCons (sVar 0) (sCons (sVar 1) sNil)))))))
def g_least_elements : List D → R D := runP 2 2 f_least_elements
/-- _law_pick -/
def f__law_pick : SS := (sRet (sOp dIx (sVar 2) (sCallT g__law_draw (sCons (sVar 0) (sConsTw 1 (sCons (sCb bLen (sCons (sVar 2) sNil)) sNil))))))
def g__law_pick : List AV → Nat → R (D × Nat) := runT 3 3 f__law_pick
/-- levels -/
def f_levels : SS := (sSeq (sDrop (sCallP g_check_semigroup (sCons (sVar 0) sNil)))
  (sSeq (sAsg 1 (sOp dIx (sVar 0) (sC (.int 0))))
  (sRet (sCb bTuple (sCons (sNw (nLc (nEnumU (sCons (sCallP g_least_by (sCons (sVar 0) (sCons (sVar 1) sNil))) sNil)) (gT [2, 3]) (sTest (sOp dGt (sVar 2) (sC (.int 0)))) (sOp dFdiv (sOp dSub (sVar 3) (sVar 2)) (sVar 1)) [2, 3])) sNil)))))
def g_levels : List D → R D := runP 4 1 f_levels
/-- are_levels -/
def f_are_levels : SS := (sSeq (sIfS (sOr (sNot (sTest (sIsi "tuple" (sVar 0)))) (sOr (sTest (sOp dGt (sCb bLen (sCons (sVar 0) sNil)) (sC (.int 8)))) (sNot (sTest (sCb bAll (sCons (sNw (nLc (nSeq (sVar 0)) (gN 4) sYes (sCallP g_is_integer (sCons (sVar 4) (sCons (sC (.int 1)) (sCons (sC (.int 9)) sNil)))) [4])) sNil)))))) (sRet (sC (.bl false))) sNext)
  (sSeq (sAsg 1 (sOp dAdd (sCb bLen (sCons (sVar 0) sNil)) (sC (.int 1))))
  (sSeq (sFor (nRng2 (sCons (sC (.int 1)) (sCons (sVar 1) sNil))) (gN 2) (sFor (nRng2 (sCons (sC (.int 1)) (sCons (sOp dAdd (sVar 2) (sC (.int 1))) sNil))) (gN 3) (sSeq (sIfS (sAnd (sTest (sOp dLt (sOp dAdd (sVar 2) (sVar 3)) (sVar 1))) (sTest (sOp dLt (sOp dAdd (sOp dIx (sVar 0) (sOp dSub (sVar 2) (sC (.int 1)))) (sOp dIx (sVar 0) (sOp dSub (sVar 3) (sC (.int 1))))) (sOp dIx (sVar 0) (sOp dSub (sOp dAdd (sVar 2) (sVar 3)) (sC (.int 1))))))) (sRet (sC (.bl false))) sNext)
  (sIfS (sAnd (sTest (sOp dGt (sOp dAdd (sVar 2) (sVar 3)) (sVar 1))) (sTest (sOp dLt (sOp dAdd (sOp dAdd (sOp dIx (sVar 0) (sOp dSub (sVar 2) (sC (.int 1)))) (sOp dIx (sVar 0) (sOp dSub (sVar 3) (sC (.int 1))))) (sC (.int 1))) (sOp dIx (sVar 0) (sOp dSub (sOp dSub (sOp dAdd (sVar 2) (sVar 3)) (sVar 1)) (sC (.int 1))))))) (sRet (sC (.bl false))) sNext))))
  (sRet (sC (.bl true))))))
def g_are_levels : List D → R D := runP 5 1 f_are_levels
/-- from_levels -/
def f_from_levels : SS := (sSeq (sIfS (sNot (sTest (sCallP g_are_levels (sCons (sVar 0) sNil)))) (sRaise 3) sNext)
  (sSeq (sAsg 1 (sOp dAdd (sCb bLen (sCons (sVar 0) sNil)) (sC (.int 1))))
  (sRet (sCallP g_limited (sCons (sOp dAdd (sLst (sCons (sVar 1) sNil)) (sNw (nLc (nEnumU (sCons (sVar 0) sNil)) (gT [2, 3]) sYes (sOp dAdd (sOp dAdd (sOp dMul (sVar 3) (sVar 1)) (sVar 2)) (sC (.int 1))) [2, 3]))) sNil)))))
def g_from_levels : List D → R D := runP 4 1 f_from_levels
/-- is_symmetric -/
def f_is_symmetric : SS := (sSeq (sDrop (sCallP g_check_semigroup (sCons (sVar 0) sNil)))
  (sRet (sOp dEq (sOp dMul (sC (.int 2)) (sCb bLen (sCons (sCallP g_gap_list (sCons (sVar 0) sNil)) sNil))) (sOp dAdd (sCallP g_greatest_of (sCons (sVar 0) sNil)) (sC (.int 1))))))
def g_is_symmetric : List D → R D := runP 1 1 f_is_symmetric
/-- outer_of -/
def f_outer_of : SS := (sSeq (sAsg 1 (sOp dIx (sVar 0) (sC (.int 0))))
  (sSeq (sParM 2 3 (sCallP g_least_by (sCons (sVar 0) (sCons (sVar 1) sNil))) (nLst sNil))
  (sSeq (sFor (nSeq (sCallP g_gap_list (sCons (sVar 0) sNil))) (gN 4) (sIfS (sTest (sCb bAll (sCons (sNw (nLc (nSeq (sVar 0)) (gN 5) sYes (sOp dLe (sOp dIx (sVar 2) (sOp dMod (sOp dAdd (sVar 4) (sVar 5)) (sVar 1))) (sOp dAdd (sVar 4) (sVar 5))) [5])) sNil))) (sApp 3 (sVar 4)) sNext))
  (sFrz 3 (sRet (sVar 3))))))
def g_outer_of : List D → R D := runP 6 1 f_outer_of
/-- outer_gaps -/
def f_outer_gaps : SS := (sSeq (sDrop (sCallP g_check_semigroup (sCons (sVar 0) sNil)))
  (sRet (sCallP g_outer_of (sCons (sVar 0) sNil))))
def g_outer_gaps : List D → R D := runP 1 1 f_outer_gaps
/-- check_number -/
def f_check_number : SS := (sSeq (sDrop (sCallP g_check_semigroup (sCons (sVar 0) sNil)))
  (sIfS (sNot (sTest (sCallP g_is_integer (sCons (sVar 1) (sCons (sC (.int 0)) (sCons (sC (.int 999)) sNil)))))) (sRaise 1) sNext))
def g_check_number : List D → R D := runP 2 2 f_check_number
/-- ways_by -/
def f_ways_by : SS := (sSeq (sAsgN 2 (nOp lAdd (sLst (sCons (sC (.int 1)) sNil)) (sOp dMul (sLst (sCons (sC (.int 0)) sNil)) (sVar 1))))
  (sSeq (sFor (nSeq (sVar 0)) (gN 3) (sFor (nRng2 (sCons (sVar 3) (sCons (sOp dAdd (sVar 1) (sC (.int 1))) sNil))) (gN 4) (sAugIx 2 (sVar 4) (sIxOw 2 (sOp dSub (sVar 4) (sVar 3))))))
  (sFrz 2 (sRet (sVar 2)))))
def g_ways_by : List D → R D := runP 5 2 f_ways_by
/-- listed -/
def f_listed (rec : List D → R D) : SS := (sSeq (sIfS (sTest (sOp dEq (sCb bLen (sCons (sVar 0) sNil)) (sC (.int 1)))) (sRet (sIf (sTest (sOp dEq (sOp dMod (sVar 1) (sOp dIx (sVar 0) (sC (.int 0)))) (sC (.int 0)))) (sLst (sCons (sTup (sCons (sOp dFdiv (sVar 1) (sOp dIx (sVar 0) (sC (.int 0)))) sNil)) sNil)) (sLst sNil))) sNext)
  (sSeq (sAsgN 2 (nLst sNil))
  (sSeq (sFor (nRng1 (sCons (sOp dAdd (sOp dFdiv (sVar 1) (sOp dIx (sVar 0) (sC (.int 0)))) (sC (.int 1))) sNil)) (gN 3) (sSeq (sAsg 4 (sCallP rec (sCons (sSl dSl (sVar 0) (sPart (sC (.int 1))) sNoPart) (sCons (sOp dSub (sVar 1) (sOp dMul (sVar 3) (sOp dIx (sVar 0) (sC (.int 0))))) sNil))))
  (sExt 2 (sNw (nLc (nSeq (sVar 4)) (gN 5) sYes (sOp dAdd (sTup (sCons (sVar 3) sNil)) (sVar 5)) [5])))))
  (sFrz 2 (sRet (sVar 2))))))
def h_listed : Nat → List D → R D
  | 0 => fun _ => .no
  | j + 1 => runP 6 2 (f_listed (h_listed j))
def g_listed : List D → R D := h_listed 16
/-- presentations -/
def f_presentations : SS := (sSeq (sDrop (sCallP g_check_number (sCons (sVar 0) (sCons (sVar 1) sNil))))
  (sSeq (sIfS (sTest (sOp dGt (sOp dIx (sCallP g_ways_by (sCons (sVar 0) (sCons (sVar 1) sNil))) (sVar 1)) (sC (.int 500)))) (sRaise 11) sNext)
  (sRet (sCallP g_listed (sCons (sVar 0) (sCons (sVar 1) sNil))))))
def g_presentations : List D → R D := runP 2 2 f_presentations
/-- count_presentations -/
def f_count_presentations : SS := (sSeq (sDrop (sCallP g_check_number (sCons (sVar 0) (sCons (sVar 1) sNil))))
  (sRet (sOp dIx (sCallP g_ways_by (sCons (sVar 0) (sCons (sVar 1) sNil))) (sVar 1))))
def g_count_presentations : List D → R D := runP 2 2 f_count_presentations
/-- lengths -/
def f_lengths : SS := (sSeq (sDrop (sCallP g_check_number (sCons (sVar 0) (sCons (sVar 1) sNil))))
  (sSeq (sAsgN 2 (nLst (sCons (sLst (sCons (sC (.int 0)) sNil)) sNil)))
  (sSeq (sFor (nRng2 (sCons (sC (.int 1)) (sCons (sOp dAdd (sVar 1) (sC (.int 1))) sNil))) (gN 3) (sSeq (sAsgN 4 (nLst sNil))
  (sSeq (sFor (nSeq (sVar 0)) (gN 5) (sIfS (sTest (sOp dLe (sVar 5) (sVar 3))) (sExt 4 (sNw (nLc (nSeq (sIxOw 2 (sOp dSub (sVar 3) (sVar 5)))) (gN 6) sYes (sOp dAdd (sVar 6) (sC (.int 1))) [6]))) sNext))
  (sFrz 4 (sApp 2 (sSortSet (sVar 4)))))))
  (sRet (sIxOw 2 (sVar 1))))))
def g_lengths : List D → R D := runP 7 2 f_lengths
/-- _law_ways -/
def f__law_ways (rec : List D → R D) : SS := (sSeq (sIfS (sTest (sOp dEq (sVar 0) (sTup sNil))) (sRet (sIf (sTest (sOp dEq (sVar 1) (sC (.int 0)))) (sLst (sCons (sTup sNil) sNil)) (sLst sNil))) sNext)
  (sSeq (sAsgN 2 (nLst sNil))
  (sSeq (sAsg 3 (sC (.int 0)))
  (sSeq (sWhile (sTest (sOp dLe (sOp dMul (sVar 3) (sOp dIx (sVar 0) (sC (.int 0)))) (sVar 1))) (sSeq (sExt 2 (sNw (nLc (nSeq (sCallP rec (sCons (sSl dSl (sVar 0) (sPart (sC (.int 1))) sNoPart) (sCons (sOp dSub (sVar 1) (sOp dMul (sVar 3) (sOp dIx (sVar 0) (sC (.int 0))))) sNil)))) (gN 4) sYes (sOp dAdd (sTup (sCons (sVar 3) sNil)) (sVar 4)) [4])))
  (sAug 3 (sC (.int 1)))) FUEL)
  (sFrz 2 (sRet (sVar 2)))))))
def h__law_ways : Nat → List D → R D
  | 0 => fun _ => .no
  | j + 1 => runP 5 2 (f__law_ways (h__law_ways j))
def g__law_ways : List D → R D := h__law_ways 16
/-- is_irreducible -/
def f_is_irreducible : SS := (sSeq (sDrop (sCallP g_check_semigroup (sCons (sVar 0) sNil)))
  (sRet (sOp dIn (sOp dSub (sOp dMul (sC (.int 2)) (sCb bLen (sCons (sCallP g_gap_list (sCons (sVar 0) sNil)) sNil))) (sCallP g_greatest_of (sCons (sVar 0) sNil))) (sTup (sCons (sC (.int 1)) (sCons (sC (.int 2)) sNil))))))
def g_is_irreducible : List D → R D := runP 1 1 f_is_irreducible
/-- from_gaps -/
def f_from_gaps : SS := (sSeq (sAsg 1 (sIf (sTest (sOp dNe (sVar 0) (sLst sNil))) (sOp dIx (sVar 0) (sUn dNeg (sC (.int 1)))) (sC (.int 0))))
  (sSeq (sAsg 2 (sDc (nSeq (sVar 0)) 4))
  (sSeq (sAsg 3 (sC (.int 1)))
  (sSeq (sWhile (sTest (sOp dIn (sVar 3) (sVar 2))) (sAug 3 (sC (.int 1))) FUEL)
  (sRet (sCallP g_limited (sCons (sNw (nLc (nRng2 (sCons (sC (.int 1)) (sCons (sOp dAdd (sOp dAdd (sVar 1) (sVar 3)) (sC (.int 1))) sNil))) (gN 4) (sTest (sOp dNotIn (sVar 4) (sVar 2))) (sVar 4) [4])) sNil)))))))
def g_from_gaps : List D → R D := runP 5 1 f_from_gaps
/-- fillable_of -/
def f_fillable_of : SS := (sSeq (sAsg 1 (sCallP g_least_by (sCons (sVar 0) (sCons (sOp dIx (sVar 0) (sC (.int 0))) sNil))))
  (sRet (sNw (nLc (nSeq (sCallP g_outer_of (sCons (sVar 0) sNil))) (gN 2) (sTest (sOp dLe (sOp dIx (sVar 1) (sOp dMod (sOp dMul (sC (.int 2)) (sVar 2)) (sOp dIx (sVar 0) (sC (.int 0))))) (sOp dMul (sC (.int 2)) (sVar 2)))) (sVar 2) [2]))))
def g_fillable_of : List D → R D := runP 3 1 f_fillable_of
/-- fillable_gaps -/
def f_fillable_gaps : SS := (sSeq (sDrop (sCallP g_check_semigroup (sCons (sVar 0) sNil)))
  (sRet (sCallP g_fillable_of (sCons (sVar 0) sNil))))
def g_fillable_gaps : List D → R D := runP 1 1 f_fillable_gaps
/-- _law_of_holes -/
def f__law_of_holes : SS := (sSeq (sAsg 1 (sCb bMax (sCons (sOp dAdd (sVar 0) (sLst (sCons (sC (.int 0)) sNil))) sNil)))
  (sRet (sCallP g__law_least_set (sCons (sNw (nLc (nRng2 (sCons (sC (.int 1)) (sCons (sOp dAdd (sOp dMul (sC (.int 2)) (sVar 1)) (sC (.int 3))) sNil))) (gN 2) (sTest (sOp dNotIn (sVar 2) (sVar 0))) (sVar 2) [2])) sNil))))
def g__law_of_holes : List D → R D := runP 3 1 f__law_of_holes
/-- _law_small -/
def f__law_small : SS := (sSeq (sAsgN 3 (nLst sNil))
  (sSeq (sFor (nRng1 (sCons (sCallT g__law_draw (sCons (sVar 0) (sConsTw 1 (sCons (sOp dAdd (sVar 2) (sC (.int 1))) sNil)))) sNil)) (gN 4) (sSeq (sAsg 5 (sThawU 3 (sCallP g__law_of_holes (sCons (sVar 3) sNil))))
  (sSeq (sAsg 6 (sNw (nThaw 3 (nLc (nSeq (sVar 5)) (gN 7) (sTest (sOp dGt (sVar 7) (sCb bMax (sCons (sOp dAdd (sVar 3) (sLst (sCons (sC (.int 0)) sNil))) sNil)))) (sVar 7) [7]))))
  (sIfS (sTest (sOp dNe (sVar 6) (sLst sNil))) (sApp 3 (sCallT g__law_pick (sCons (sVar 0) (sConsTw 1 (sCons (sVar 6) sNil))))) sNext))))
  (sFrz 3 (sRet (sCallP g__law_of_holes (sCons (sVar 3) sNil))))))
def g__law_small : List AV → Nat → R (D × Nat) := runT 8 3 f__law_small
/-- _law_closed -/
def f__law_closed : SS := (sSeq (sAsg 1 (sNw (nLc (nRng1 (sCons (sCb bMax (sCons (sOp dAdd (sVar 0) (sLst (sCons (sC (.int 0)) sNil))) sNil)) sNil)) (gN 3) (sTest (sOp dNotIn (sVar 3) (sVar 0))) (sVar 3) [3])))
  (sSeq (sFor (nSeq (sVar 1)) (gN 2) (sIfS (sTest (sOp dNe (sNw (nLc (nSeq (sVar 1)) (gN 4) (sTest (sOp dIn (sOp dAdd (sVar 2) (sVar 4)) (sVar 0))) (sVar 4) [4])) (sLst sNil))) (sRet (sC (.bl false))) sNext))
  (sRet (sC (.bl true)))))
def g__law_closed : List D → R D := runP 5 1 f__law_closed
/-- parent -/
def f_parent : SS := (sSeq (sDrop (sCallP g_check_semigroup (sCons (sVar 0) sNil)))
  (sSeq (sIfS (sTest (sOp dEq (sVar 0) (sTup (sCons (sC (.int 1)) sNil)))) (sRaise 9) sNext)
  (sRet (sCallP g_from_gaps (sCons (sSl dSl (sCallP g_gap_list (sCons (sVar 0) sNil)) sNoPart (sPart (sUn dNeg (sC (.int 1))))) sNil)))))
def g_parent : List D → R D := runP 1 1 f_parent
/-- children_of -/
def f_children_of : SS := (sSeq (sPar 1 2 (sCons (sCallP g_gap_list (sCons (sVar 0) sNil)) (sCons (sCallP g_greatest_of (sCons (sVar 0) sNil)) sNil)))
  (sRet (sCb bSort2 (sCons (sNw (nLc (nSeq (sVar 0)) (gN 3) (sTest (sOp dGt (sVar 3) (sVar 2))) (sCallP g_from_gaps (sCons (sOp dAdd (sVar 1) (sLst (sCons (sVar 3) sNil))) sNil)) [3])) sNil))))
def g_children_of : List D → R D := runP 4 1 f_children_of
/-- children -/
def f_children : SS := (sSeq (sDrop (sCallP g_check_semigroup (sCons (sVar 0) sNil)))
  (sRet (sCallP g_children_of (sCons (sVar 0) sNil))))
def g_children : List D → R D := runP 1 1 f_children
/-- level_of -/
def f_level_of : SS := (sSeq (sAsg 1 (sLst (sCons (sTup (sCons (sC (.int 1)) sNil)) sNil)))
  (sSeq (sFor (nRng1 (sCons (sVar 0) sNil)) (gN 2) (sSeq (sAsgN 3 (nLst sNil))
  (sSeq (sFor (nSeq (sVar 1)) (gN 4) (sExt 3 (sCallP g_children_of (sCons (sVar 4) sNil))))
  (sFrz 3 (sAsg 1 (sVar 3))))))
  (sRet (sCb bSort2 (sCons (sVar 1) sNil)))))
def g_level_of : List D → R D := runP 5 1 f_level_of
/-- all_of_genus -/
def f_all_of_genus : SS := (sSeq (sIfS (sNot (sTest (sCallP g_is_integer (sCons (sVar 0) (sCons (sC (.int 0)) (sCons (sC (.int 7)) sNil)))))) (sRaise 1) sNext)
  (sRet (sCallP g_level_of (sCons (sVar 0) sNil))))
def g_all_of_genus : List D → R D := runP 1 1 f_all_of_genus
/-- intersect -/
def f_intersect : SS := (sSeq (sDrop (sCallP g_check_semigroup (sCons (sVar 0) sNil)))
  (sSeq (sDrop (sCallP g_check_semigroup (sCons (sVar 1) sNil)))
  (sRet (sCallP g_from_gaps (sCons (sSortSet (sOp dAdd (sCallP g_gap_list (sCons (sVar 0) sNil)) (sCallP g_gap_list (sCons (sVar 1) sNil)))) sNil)))))
def g_intersect : List D → R D := runP 2 2 f_intersect
/-- join -/
def f_join : SS := (sSeq (sDrop (sCallP g_check_semigroup (sCons (sVar 0) sNil)))
  (sSeq (sDrop (sCallP g_check_semigroup (sCons (sVar 1) sNil)))
  (sRet (sCallP g_limited (sCons (sOp dAdd (sVar 0) (sVar 1)) sNil)))))
def g_join : List D → R D := runP 2 2 f_join
/-- quotient -/
def f_quotient : SS := (sSeq (sDrop (sCallP g_check_semigroup (sCons (sVar 0) sNil)))
  (sSeq (sIfS (sNot (sTest (sCallP g_is_integer (sCons (sVar 1) (sCons (sC (.int 1)) (sCons (sC (.int 99)) sNil)))))) (sRaise 1) sNext)
  (sRet (sCallP g_from_gaps (sCons (sNw (nLc (nSeq (sCallP g_gap_list (sCons (sVar 0) sNil))) (gN 2) (sTest (sOp dEq (sOp dMod (sVar 2) (sVar 1)) (sC (.int 0)))) (sOp dFdiv (sVar 2) (sVar 1)) [2])) sNil)))))
def g_quotient : List D → R D := runP 3 2 f_quotient
/-- glue -/
def f_glue : SS := (sSeq (sDrop (sCallP g_check_semigroup (sCons (sVar 0) sNil)))
  (sSeq (sDrop (sCallP g_check_semigroup (sCons (sVar 1) sNil)))
  (sSeq (sIfS (sOr (sNot (sTest (sCallP g_is_integer (sCons (sVar 2) (sCons (sC (.int 2)) (sCons (sC (.int 99)) sNil)))))) (sNot (sTest (sCallP g_is_integer (sCons (sVar 3) (sCons (sC (.int 2)) (sCons (sC (.int 99)) sNil))))))) (sRaise 1) sNext)
  (sSeq (sIfS (sOr (sNot (sTest (sCallP g_has (sCons (sVar 1) (sCons (sVar 2) sNil))))) (sNot (sTest (sCallP g_has (sCons (sVar 0) (sCons (sVar 3) sNil)))))) (sRaise 5) sNext)
  (sSeq (sIfS (sTest (sOp dNe (sCallP g_divisor_of (sCons (sVar 2) (sCons (sVar 3) sNil))) (sC (.int 1)))) (sRaise 6) sNext)
  (sRet (sCallP g_limited (sCons (sOp dAdd (sNw (nLc (nSeq (sVar 0)) (gN 4) sYes (sOp dMul (sVar 2) (sVar 4)) [4])) (sNw (nLc (nSeq (sVar 1)) (gN 4) sYes (sOp dMul (sVar 3) (sVar 4)) [4]))) sNil))))))))
def g_glue : List D → R D := runP 5 4 f_glue
/-- is_answer -/
def f_is_answer : SS := (sRet (sAndV (sIsi "tuple" (sVar 0)) (sAndV (sOp dEq (sCb bLen (sCons (sVar 0) sNil)) (sC (.int 2))) (sAndV (sCallP g_is_integer (sCons (sOp dIx (sVar 0) (sC (.int 0))) (sCons (sC (.int 1)) (sCons (sC (.int 99)) sNil)))) (sIsi "bool" (sOp dIx (sVar 0) (sC (.int 1))))))))
def g_is_answer : List D → R D := runP 1 1 f_is_answer
/-- agreeing -/
def f_agreeing : SS := (sSeq (sIfS (sNot (sTest (sCallP g_is_integer (sCons (sVar 0) (sCons (sC (.int 0)) (sCons (sC (.int 6)) sNil)))))) (sRaise 1) sNext)
  (sSeq (sIfS (sOr (sNot (sTest (sIsi "tuple" (sVar 1)))) (sNot (sTest (sCb bAll (sCons (sNw (nLc (nSeq (sVar 1)) (gN 4) sYes (sCallP g_is_answer (sCons (sVar 4) sNil)) [4])) sNil))))) (sRaise 4) sNext)
  (sSeq (sAsgN 2 (nLst sNil))
  (sSeq (sFor (nRng1 (sCons (sOp dAdd (sVar 0) (sC (.int 1))) sNil)) (gN 3) (sExt 2 (sCallP g_level_of (sCons (sVar 3) sNil))))
  (sFrz 2 (sRet (sCb bSort2 (sCons (sNw (nLc (nSeq (sVar 2)) (gN 4) (sTest (sCb bAll (sCons (sNw (nLc (nSeq (sVar 1)) (gT [3, 5]) sYes (sOp dEq (sCallP g_has (sCons (sVar 4) (sCons (sVar 3) sNil))) (sVar 5)) [3, 5])) sNil))) (sVar 4) [4])) sNil))))))))
def g_agreeing : List D → R D := runP 6 2 f_agreeing
/-- candidates -/
def f_candidates : SS := (sRet (sCallP g_agreeing (sCons (sVar 0) (sCons (sVar 1) sNil))))
def g_candidates : List D → R D := runP 2 2 f_candidates
/-- best_question -/
def f_best_question : SS := (sSeq (sAsg 2 (sCallP g_agreeing (sCons (sVar 0) (sCons (sVar 1) sNil))))
  (sSeq (sIfS (sTest (sOp dEq (sVar 2) (sLst sNil))) (sRaise 4) sNext)
  (sSeq (sIfS (sTest (sOp dEq (sCb bLen (sCons (sVar 2) sNil)) (sC (.int 1)))) (sRet (sC .non)) sNext)
  (sSeq (sAsgN 3 (nLst sNil))
  (sSeq (sFor (nRng2 (sCons (sC (.int 1)) (sCons (sOp dAdd (sOp dMul (sC (.int 2)) (sVar 0)) (sC (.int 1))) sNil))) (gN 4) (sSeq (sAsg 5 (sCb bLen (sCons (sNw (nLc (nSeq (sVar 2)) (gN 6) (sTest (sCallP g_has (sCons (sVar 6) (sCons (sVar 4) sNil)))) (sVar 6) [6])) sNil)))
  (sApp 3 (sTup (sCons (sCb bMax (sCons (sVar 5) (sCons (sOp dSub (sCb bLen (sCons (sVar 2) sNil)) (sVar 5)) sNil))) (sCons (sVar 4) sNil))))))
  (sFrz 3 (sRet (sOp dIx (sCb bMin3 (sCons (sVar 3) sNil)) (sC (.int 1))))))))))
def g_best_question : List D → R D := runP 7 2 f_best_question
/-- _law_all -/
def f__law_all : SS := (sSeq (sPar 1 2 (sCons (sLst (sCons (sLst sNil) sNil)) (sCons (sLst (sCons (sLst sNil) sNil)) sNil)))
  (sSeq (sFor (nRng1 (sCons (sVar 0) sNil)) (gN 3) (sSeq (sAsgN 4 (nLst sNil))
  (sSeq (sFor (nSeq (sVar 2)) (gN 5) (sExt 4 (sNw (nLc (nSeq (sCallP g__law_of_holes (sCons (sVar 5) sNil))) (gN 6) (sTest (sOp dGt (sVar 6) (sCb bMax (sCons (sOp dAdd (sVar 5) (sLst (sCons (sC (.int 0)) sNil))) sNil)))) (sOp dAdd (sVar 5) (sLst (sCons (sVar 6) sNil))) [6]))))
  (sFrz 4 (sPar 1 2 (sCons (sOp dAdd (sVar 1) (sVar 4)) (sCons (sVar 4) sNil)))))))
  (sRet (sVar 1))))
def g__law_all : List D → R D := runP 7 1 f__law_all
/-- tuples_with -/
def f_tuples_with (rec : List D → R D) : SS := (sSeq (sIfS (sTest (sOp dEq (sVar 0) (sC (.int 0)))) (sRet (sIf (sTest (sOp dEq (sVar 1) (sC (.int 0)))) (sLst (sCons (sTup sNil) sNil)) (sLst sNil))) sNext)
  (sSeq (sAsgN 2 (nLst sNil))
  (sSeq (sFor (nRng2 (sCons (sC (.int 1)) (sCons (sOp dAdd (sOp dSub (sVar 1) (sVar 0)) (sC (.int 2))) sNil))) (gN 3) (sExt 2 (sNw (nLc (nSeq (sCallP rec (sCons (sOp dSub (sVar 0) (sC (.int 1))) (sCons (sOp dSub (sVar 1) (sVar 3)) sNil)))) (gN 4) sYes (sOp dAdd (sTup (sCons (sVar 3) sNil)) (sVar 4)) [4]))))
  (sFrz 2 (sRet (sVar 2))))))
def h_tuples_with : Nat → List D → R D
  | 0 => fun _ => .no
  | j + 1 => runP 5 2 (f_tuples_with (h_tuples_with j))
def g_tuples_with : List D → R D := h_tuples_with 16
/-- levels_with -/
def f_levels_with : SS := (sSeq (sIfS (sOr (sNot (sTest (sCallP g_is_integer (sCons (sVar 0) (sCons (sC (.int 1)) (sCons (sC (.int 6)) sNil)))))) (sNot (sTest (sCallP g_is_integer (sCons (sVar 1) (sCons (sC (.int 0)) (sCons (sC (.int 9)) sNil))))))) (sRaise 1) sNext)
  (sRet (sNw (nLc (nSeq (sCallP g_tuples_with (sCons (sOp dSub (sVar 0) (sC (.int 1))) (sCons (sVar 1) sNil)))) (gN 2) (sTest (sCallP g_are_levels (sCons (sVar 2) sNil))) (sVar 2) [2]))))
def g_levels_with : List D → R D := runP 3 2 f_levels_with
end Gp
end

section
set_option linter.all false
set_option backward.match.sparseCases false
set_option maxRecDepth 100000
namespace Gp
open G PySem
/-- Climber_remove -/
def f_Climber_remove : SSg Cl := (sSeq (sIfS (sOr (sNot (sTest (sCallP g_is_integer (sCons (sVar 1) (sCons (sC (.int 1)) (sCons (sC (.int 99)) sNil)))))) (sTest (sOp dNotIn (sVar 1) (sStIx 0 (sUn dNeg (sC (.int 1))))))) (sRaise 7) sNext)
  (sSeq (sAsg 2 (sCallP g_from_gaps (sCons (sCb bSort2 (sCons (sOp dAdd (sCallP g_gap_list (sCons (sStIx 0 (sUn dNeg (sC (.int 1)))) sNil)) (sLst (sCons (sVar 1) sNil))) sNil)) sNil)))
  (sSeq (sStApp 0 (sVar 2))
  (sRet (sVar 2)))))
def g_Climber_remove : List AV → Cl → R (D × Cl) := runT 3 2 f_Climber_remove
/-- Climber_fill -/
def f_Climber_fill : SSg Cl := (sSeq (sIfS (sOr (sNot (sTest (sCallP g_is_integer (sCons (sVar 1) (sCons (sC (.int 1)) (sCons (sC (.int 99999)) sNil)))))) (sTest (sOp dNotIn (sVar 1) (sCallP g_fillable_of (sCons (sStIx 0 (sUn dNeg (sC (.int 1)))) sNil))))) (sRaise 8) sNext)
  (sSeq (sAsg 2 (sCallP g_from_gaps (sCons (sNw (nLc (nSeq (sCallP g_gap_list (sCons (sStIx 0 (sUn dNeg (sC (.int 1)))) sNil))) (gN 3) (sTest (sOp dNe (sVar 3) (sVar 1))) (sVar 3) [3])) sNil)))
  (sSeq (sStApp 0 (sVar 2))
  (sRet (sVar 2)))))
def g_Climber_fill : List AV → Cl → R (D × Cl) := runT 4 2 f_Climber_fill
/-- check_small -/
def f_check_small : SS := (sSeq (sDrop (sCallP g_check_semigroup (sCons (sVar 0) sNil)))
  (sIfS (sTest (sOp dGt (sCb bLen (sCons (sCallP g_gap_list (sCons (sVar 0) sNil)) sNil)) (sC (.int 8)))) (sRaise 11) sNext))
def g_check_small : List D → R D := runP 1 1 f_check_small
/-- above -/
def f_above : SS := (sKeys 1 2 0 (sSeq (sWhile (sThawT 2 (sTest (sOp dNe (sVar 2) (sLst sNil)))) (sSeq (sPop 3 2)
  (sSeq (sAsg 4 (sCallP g_gap_list (sCons (sVar 3) sNil)))
  (sFor (nSeq (sCallP g_fillable_of (sCons (sVar 3) sNil))) (gN 5) (sSeq (sAsg 6 (sCallP g_from_gaps (sCons (sNw (nLc (nSeq (sVar 4)) (gN 7) (sTest (sOp dNe (sVar 7) (sVar 5))) (sVar 7) [7])) sNil)))
  (sIfS (sTest (sNoKey (sVar 6) 1)) (sSeq (sKeyPut 1 (sVar 6))
  (sApp 2 (sVar 6))) sNext))))) FUEL)
  (sRet (sSortK 1))))
def g_above : List D → R D := runP 8 1 f_above
/-- containing -/
def f_containing : SS := (sSeq (sDrop (sCallP g_check_small (sCons (sVar 0) sNil)))
  (sRet (sCallP g_above (sCons (sVar 0) sNil))))
def g_containing : List D → R D := runP 1 1 f_containing
/-- _law_parts_of -/
def f__law_parts_of : SS := (sSeq (sAsg 1 (sLst (sCons (sLst sNil) sNil)))
  (sSeq (sFor (nSeq (sVar 0)) (gN 2) (sAsg 1 (sOp dAdd (sVar 1) (sNw (nLc (nSeq (sVar 1)) (gN 3) sYes (sOp dAdd (sVar 3) (sLst (sCons (sVar 2) sNil))) [3])))))
  (sRet (sNw (nLc (nSeq (sVar 1)) (gN 3) (sTest (sCallP g__law_closed (sCons (sVar 3) sNil))) (sVar 3) [3])))))
def g__law_parts_of : List D → R D := runP 4 1 f__law_parts_of
/-- choices -/
def f_choices (rec : List D → R D) : SS := (sSeq (sIfS (sTest (sOp dEq (sVar 1) (sC (.int 0)))) (sRet (sLst (sCons (sLst sNil) sNil))) sNext)
  (sSeq (sAsgN 2 (nLst sNil))
  (sSeq (sFor (nEnumU (sCons (sVar 0) sNil)) (gT [3, 4]) (sExt 2 (sNw (nLc (nSeq (sCallP rec (sCons (sSl dSl (sVar 0) (sPart (sOp dAdd (sVar 3) (sC (.int 1)))) sNoPart) (sCons (sOp dSub (sVar 1) (sC (.int 1))) sNil)))) (gN 5) sYes (sOp dAdd (sLst (sCons (sVar 4) sNil)) (sVar 5)) [5]))))
  (sFrz 2 (sRet (sVar 2))))))
def h_choices : Nat → List D → R D
  | 0 => fun _ => .no
  | j + 1 => runP 6 2 (f_choices (h_choices j))
def g_choices : List D → R D := h_choices 16
/-- is_decomposition -/
def f_is_decomposition : SS := (sSeq (sDrop (sCallP g_check_semigroup (sCons (sVar 0) sNil)))
  (sSeq (sIfS (sOr (sNot (sTest (sIsi "list" (sVar 1)))) (sOr (sTest (sOp dEq (sVar 1) (sLst sNil))) (sNot (sTest (sCb bAll (sCons (sNw (nLc (nSeq (sVar 1)) (gN 4) sYes (sCallP g_is_semigroup (sCons (sVar 4) sNil)) [4])) sNil)))))) (sRet (sC (.bl false))) sNext)
  (sSeq (sIfS (sNot (sTest (sCb bAll (sCons (sNw (nLc (nSeq (sVar 1)) (gN 4) sYes (sCallP g_is_irreducible (sCons (sVar 4) sNil)) [4])) sNil)))) (sRet (sC (.bl false))) sNext)
  (sSeq (sParM 2 3 (sCallP g_gap_list (sCons (sVar 0) sNil)) (nLst sNil))
  (sSeq (sFor (nSeq (sVar 1)) (gN 4) (sExt 3 (sCallP g_gap_list (sCons (sVar 4) sNil))))
  (sFrz 3 (sRet (sOp dEq (sSortSet (sVar 3)) (sVar 2)))))))))
def g_is_decomposition : List D → R D := runP 5 2 f_is_decomposition
/-- _law_fewest -/
def f__law_fewest : SS := (sSeq (sAsg 2 (sLst (sCons (sLst sNil) sNil)))
  (sSeq (sAsg 3 (sC (.int 0)))
  (sSeq (sWhile (sTest (sOp dNotIn (sVar 1) (sVar 2))) (sSeq (sAsgN 4 (nLst sNil))
  (sSeq (sFor (nSeq (sVar 2)) (gN 5) (sFor (nSeq (sVar 0)) (gN 6) (sSeq (sAsg 7 (sSortSet (sOp dAdd (sVar 5) (sVar 6))))
  (sIfS (sThawT 4 (sTest (sOp dNotIn (sVar 7) (sVar 4)))) (sApp 4 (sVar 7)) sNext))))
  (sSeq (sFrz 4 (sAsg 2 (sVar 4)))
  (sAug 3 (sC (.int 1)))))) FUEL)
  (sRet (sCb bMax (sCons (sVar 3) (sCons (sC (.int 1)) sNil)))))))
def g__law_fewest : List D → R D := runP 8 2 f__law_fewest
/-- same_gap -/
def f_same_gap : SS := (sSeq (sDrop (sCallP g_check_small (sCons (sVar 0) sNil)))
  (sSeq (sAsg 1 (sCallP g_greatest_of (sCons (sVar 0) sNil)))
  (sRet (sNw (nLc (nSeq (sCallP g_above (sCons (sVar 0) sNil))) (gN 2) (sAnd (sTest (sOp dEq (sCallP g_greatest_of (sCons (sVar 2) sNil)) (sVar 1))) (sTest (sCallP g_is_irreducible (sCons (sVar 2) sNil)))) (sVar 2) [2])))))
def g_same_gap : List D → R D := runP 3 1 f_same_gap
end Gp
end

section
set_option linter.all false
set_option backward.match.sparseCases false
set_option maxRecDepth 100000
namespace Gp
open G PySem
/-- decompose -/
def f_decompose : SS := (sSeq (sDrop (sCallP g_check_small (sCons (sVar 0) sNil)))
  (sSeq (sAsg 1 (sNw (nLc (nSeq (sCallP g_above (sCons (sVar 0) sNil))) (gN 6) (sTest (sCallP g_is_irreducible (sCons (sVar 6) sNil))) (sVar 6) [6])))
  (sSeq (sAsg 2 (sCallP g_fillable_of (sCons (sVar 0) sNil)))
  (sSeq (sAsg 3 (sTab (nSeq (sVar 1)) 6 (sNw (nLc (nSeq (sCallP g_gap_list (sCons (sVar 6) sNil))) (gN 7) (sTest (sOp dIn (sVar 7) (sVar 2))) (sVar 7) [7]))))
  (sSeq (sAsg 4 (sC (.int 1)))
  (sWhile (sTest (sC (.bl true))) (sSeq (sFor (nSeq (sCallP g_choices (sCons (sVar 1) (sCons (sVar 4) sNil)))) (gN 5) (sIfS (sTest (sCb bAll (sCons (sNw (nLc (nSeq (sVar 2)) (gN 7) sYes (sCb bAny (sCons (sNw (nLc (nSeq (sVar 5)) (gN 6) sYes (sOp dIn (sVar 7) (sOp dTab (sVar 3) (sVar 6))) [6])) sNil)) [7])) sNil))) (sRet (sIf (sTest (sOp dNe (sVar 2) (sLst sNil))) (sVar 5) (sLst (sCons (sVar 0) sNil)))) sNext))
  (sAug 4 (sC (.int 1)))) FUEL))))))
def g_decompose : List D → R D := runP 8 1 f_decompose
/-- _law_told -/
def f__law_told : SS := (sSeq (sAsgN 2 (nLst (sCons (sCallP g_gaps (sCons (sVar 0) sNil)) (sCons (sCallP g_least_elements (sCons (sVar 0) (sCons (sOp dIx (sVar 0) (sC (.int 0))) sNil))) (sCons (sCallP g_presentations (sCons (sVar 0) (sCons (sVar 1) sNil))) (sCons (sCallP g_lengths (sCons (sVar 0) (sCons (sVar 1) sNil))) (sCons (sCallP g_outer_gaps (sCons (sVar 0) sNil)) sNil)))))))
  (sSeq (sExt 2 (sLst (sCons (sCallP g_fillable_gaps (sCons (sVar 0) sNil)) (sCons (sCallP g_containing (sCons (sVar 0) sNil)) (sCons (sCallP g_decompose (sCons (sVar 0) sNil)) (sCons (sCallP g_children (sCons (sVar 0) sNil)) (sCons (sCallP g_all_of_genus (sCons (sOp dMod (sVar 1) (sC (.int 5))) sNil)) sNil)))))))
  (sFrz 2 (sRet (sOp dAdd (sVar 2) (sLst (sCons (sCallP g_levels_with (sCons (sOp dAdd (sC (.int 1)) (sOp dMod (sVar 1) (sC (.int 6)))) (sCons (sOp dMod (sVar 1) (sC (.int 8))) sNil))) (sCons (sCallP g_candidates (sCons (sOp dMod (sVar 1) (sC (.int 4))) (sCons (sTup sNil) sNil))) sNil))))))))
def g__law_told : List D → R D := runP 3 2 f__law_told
end Gp
end

section
set_option linter.all false
set_option backward.match.sparseCases false
/-! Sums of given numbers: the least sum for each remainder, by going round. -/
namespace Sg
/-- n is a sum of numbers of G -/
inductive Sum (G : List Nat) : Nat → Prop
  | zero : Sum G 0
  | add {g n : Nat} : g ∈ G → Sum G n → Sum G (n + g)
theorem Sum.mono {G G' : List Nat} (h : ∀ g ∈ G, g ∈ G') {n : Nat} (s : Sum G n) : Sum G' n := by
  induction s with
  | zero => exact .zero
  | add hg _ ih => exact .add (h _ hg) ih
theorem Sum.plus {G : List Nat} {a b : Nat} (ha : Sum G a) (hb : Sum G b) : Sum G (a + b) := by
  induction hb with
  | zero => exact ha
  | add hg _ ih =>
    rw [← Nat.add_assoc]
    exact .add hg ih
theorem Sum.gen {G : List Nat} {g : Nat} (h : g ∈ G) : Sum G g := by
  have := Sum.add h (Sum.zero (G := G))
  rwa [Nat.zero_add] at this
theorem Sum.mul {G : List Nat} {a : Nat} (ha : Sum G a) : ∀ k : Nat, Sum G (k * a)
  | 0 => by
    rw [Nat.zero_mul]
    exact .zero
  | k + 1 => by
    rw [Nat.succ_mul]
    exact (Sum.mul ha k).plus ha
theorem Sum.nil {n : Nat} (h : Sum [] n) : n = 0 := by
  cases h with
  | zero => rfl
  | add hg _ => cases hg
/-- with one number more -/
theorem Sum.cons_iff {G : List Nat} {g n : Nat} : Sum (g :: G) n ↔ ∃ w j, Sum G w ∧ n = w + j * g := by
  constructor
  · intro h
    induction h with
    | zero => exact ⟨0, 0, .zero, by simp⟩
    | add hg _ ih =>
      obtain ⟨w, j, hw, e⟩ := ih
      rcases List.mem_cons.mp hg with rfl | hg
      · exact ⟨w, j + 1, hw, by rw [e, Nat.succ_mul, Nat.add_assoc]⟩
      · exact ⟨w + _, j, .add hg hw, by rw [e]; omega⟩
  · rintro ⟨w, j, hw, rfl⟩
    exact (hw.mono fun _ h => List.mem_cons_of_mem _ h).plus (Sum.mul (.gen List.mem_cons_self) j)
theorem Sum.congr {G G' : List Nat} (h : ∀ g, g ∈ G ↔ g ∈ G') {n : Nat} : Sum G n ↔ Sum G' n := ⟨fun s => s.mono fun g => (h g).mp, fun s => s.mono fun g => (h g).mpr⟩

/-! ### the table -/
abbrev Tab := List (Option Nat)
def stepL (g m p : Nat) (L : Tab) : Tab := match L[p]? with
  | some (some v) => match L[(p + g) % m]? with
    | some (some w) => if v + g < w then L.set ((p + g) % m) (some (v + g)) else L
    | some none => L.set ((p + g) % m) (some (v + g))
    | none => L
  | _ => L
def walkL (g m : Nat) : Nat → Nat → Tab → Tab
  | 0, _, L => L
  | k + 1, p, L => walkL g m k ((p + g) % m) (stepL g m p L)
def oneGen (g m : Nat) (L : Tab) : Tab := (List.range (Nat.gcd g m)).foldl (fun L s => walkL g m (2 * m / Nat.gcd g m) s L) L
def start (m : Nat) : Tab := (List.replicate m none).set 0 (some 0)
def leastBy (G : List Nat) (m : Nat) : Tab := G.foldl (fun L g => oneGen g m L) (start m)

/-- what stands only falls -/
def Le (L L' : Tab) : Prop := L'.length = L.length ∧ ∀ (r v : Nat), L[r]? = some (some v) → ∃ v', L'[r]? = some (some v') ∧ v' ≤ v
theorem Le.refl (L : Tab) : Le L L := ⟨rfl, fun _ v h => ⟨v, h, Nat.le_refl _⟩⟩
theorem Le.trans {L L1 L2 : Tab} (a : Le L L1) (b : Le L1 L2) : Le L L2 := ⟨b.1.trans a.1, fun r v h => by
  obtain ⟨v1, h1, e1⟩ := a.2 r v h
  obtain ⟨v2, h2, e2⟩ := b.2 r v1 h1
  exact ⟨v2, h2, Nat.le_trans e2 e1⟩⟩
theorem get_set' {α : Type} (l : List α) (i : Nat) (x : α) (j : Nat) (h : i < l.length) : (l.set i x)[j]? = if j = i then some x else l[j]? := by
  rw [List.getElem?_set]
  by_cases e : i = j
  · subst e
    simp [h]
  · rw [if_neg e, if_neg fun z => e z.symm]
/-- the two ways of a step -/
theorem stepL_cases (g m p : Nat) (L : Tab) : stepL g m p L = L ∨ ∃ v, L[p]? = some (some v) ∧ stepL g m p L = L.set ((p + g) % m) (some (v + g)) ∧ (p + g) % m < L.length ∧ ∀ w, L[(p + g) % m]? = some (some w) → v + g < w := by
  unfold stepL
  split
  · rename_i v hv
    split
    · rename_i w hw
      split
      · exact .inr ⟨v, hv, rfl, (List.getElem?_eq_some_iff.mp hw).1, fun w' h' => by rw [hw] at h'; cases h'; assumption⟩
      · exact .inl rfl
    · rename_i hw
      exact .inr ⟨v, hv, rfl, (List.getElem?_eq_some_iff.mp hw).1, fun w' h' => by rw [hw] at h'; cases h'⟩
    · exact .inl rfl
  · exact .inl rfl
theorem stepL_le (g m p : Nat) (L : Tab) : Le L (stepL g m p L) := by
  rcases stepL_cases g m p L with e | ⟨v, hv, e, hl, hw⟩
  · rw [e]
    exact Le.refl L
  · rw [e]
    refine ⟨List.length_set .., fun r u hu => ?_⟩
    rw [get_set' _ _ _ _ hl]
    by_cases er : r = (p + g) % m
    · rw [if_pos er]
      subst er
      exact ⟨_, rfl, Nat.le_of_lt (hw u hu)⟩
    · rw [if_neg er]
      exact ⟨u, hu, Nat.le_refl _⟩
theorem stepL_to {g m p : Nat} {L : Tab} (hm : 0 < m) (hl : L.length = m) {v : Nat} (hv : L[p]? = some (some v)) : ∃ v', (stepL g m p L)[(p + g) % m]? = some (some v') ∧ v' ≤ v + g := by
  have hlt : (p + g) % m < L.length := by
    rw [hl]
    exact Nat.mod_lt _ hm
  unfold stepL
  rw [hv]
  dsimp only
  have hx : L[(p + g) % m]? = some L[(p + g) % m] := List.getElem?_eq_getElem hlt
  cases e : L[(p + g) % m] with
  | none =>
    rw [e] at hx
    rw [hx]
    dsimp only
    rw [get_set' _ _ _ _ hlt, if_pos rfl]
    exact ⟨_, rfl, Nat.le_refl _⟩
  | some w =>
    rw [e] at hx
    rw [hx]
    dsimp only
    split
    · rw [get_set' _ _ _ _ hlt, if_pos rfl]
      exact ⟨_, rfl, Nat.le_refl _⟩
    · exact ⟨w, hx, by omega⟩
theorem walkL_le (g m : Nat) : ∀ (k p : Nat) (L : Tab), Le L (walkL g m k p L)
  | 0, _, L => Le.refl L
  | k + 1, p, L => (stepL_le g m p L).trans (walkL_le g m k _ _)
theorem mod_step (s i g m : Nat) : ((s + g) % m + i * g) % m = (s + (i + 1) * g) % m := by
  rw [Nat.mod_add_mod, Nat.succ_mul]
  congr 1
  omega
theorem walkL_to {g m : Nat} (hm : 0 < m) : ∀ (k s : Nat) (L : Tab), L.length = m → s < m → ∀ (i j : Nat), i + j ≤ k → ∀ v, L[(s + i * g) % m]? = some (some v) → ∃ v', (walkL g m k s L)[(s + (i + j) * g) % m]? = some (some v') ∧ v' ≤ v + j * g
  | 0, s, L, hl, hs, i, j, hij, v, hv => by
    have ei : i = 0 := by omega
    have ej : j = 0 := by omega
    subst ei ej
    exact ⟨v, hv, by omega⟩
  | k + 1, s, L, hl, hs, i, j, hij, v, hv => by
    have hs' : (s + g) % m < m := Nat.mod_lt _ hm
    have hl' : (stepL g m s L).length = m := (stepL_le g m s L).1.trans hl
    cases i with
    | zero =>
      rw [Nat.zero_mul, Nat.add_zero, Nat.mod_eq_of_lt hs] at hv
      cases j with
      | zero =>
        have e0 : (s + (0 + 0) * g) % m = s := by
          rw [Nat.zero_add, Nat.zero_mul, Nat.add_zero, Nat.mod_eq_of_lt hs]
        rw [e0]
        obtain ⟨v', h1, h2⟩ := (walkL_le g m (k + 1) s L).2 s v hv
        exact ⟨v', h1, by omega⟩
      | succ j =>
        obtain ⟨v1, h1, e1⟩ := stepL_to (g := g) hm hl hv
        have h1' : (stepL g m s L)[((s + g) % m + 0 * g) % m]? = some (some v1) := by
          rw [Nat.zero_mul, Nat.add_zero, Nat.mod_mod]
          exact h1
        obtain ⟨v2, h2, e2⟩ := walkL_to hm k _ _ hl' hs' 0 j (by omega) v1 h1'
        refine ⟨v2, ?_, ?_⟩
        · rw [show s + (0 + (j + 1)) * g = s + ((0 + j) + 1) * g by rw [Nat.zero_add, Nat.zero_add], ← mod_step]
          exact h2
        · rw [Nat.succ_mul]
          omega
    | succ i =>
      obtain ⟨v1, h1, e1⟩ := (stepL_le g m s L).2 _ v hv
      rw [← mod_step] at h1
      obtain ⟨v2, h2, e2⟩ := walkL_to hm k _ _ hl' hs' i j (by omega) v1 h1
      refine ⟨v2, ?_, by omega⟩
      rw [show s + (i + 1 + j) * g = s + ((i + j) + 1) * g by congr 2; omega, ← mod_step]
      exact h2
/-! soundness -/
def Sound (G : List Nat) (m : Nat) (L : Tab) : Prop := ∀ (r v : Nat), L[r]? = some (some v) → Sum G v ∧ v % m = r
theorem stepL_sound {G : List Nat} {g m p : Nat} {L : Tab} (hg : g ∈ G) (h : Sound G m L) : Sound G m (stepL g m p L) := by
  rcases stepL_cases g m p L with e | ⟨v, hv, e, hl, hw⟩
  · rw [e]
    exact h
  · rw [e]
    intro r u hu
    rw [get_set' _ _ _ _ hl] at hu
    split at hu
    · rename_i er
      cases hu
      obtain ⟨s1, s2⟩ := h p v hv
      refine ⟨.add hg s1, ?_⟩
      rw [er, ← s2, Nat.mod_add_mod]
    · exact h r u hu
theorem walkL_sound {G : List Nat} {g m : Nat} (hg : g ∈ G) : ∀ (k p : Nat) (L : Tab), Sound G m L → Sound G m (walkL g m k p L)
  | 0, _, _, h => h
  | k + 1, p, L, h => walkL_sound hg k _ _ (stepL_sound hg h)
theorem fold_sound {G : List Nat} {g m c : Nat} (hg : g ∈ G) : ∀ (ss : List Nat) (L : Tab), Sound G m L → Sound G m (ss.foldl (fun L s => walkL g m c s L) L)
  | [], _, h => h
  | s :: ss, L, h => fold_sound hg ss _ (walkL_sound hg c s L h)
theorem fold_le (g m c : Nat) : ∀ (ss : List Nat) (L : Tab), Le L (ss.foldl (fun L s => walkL g m c s L) L)
  | [], L => Le.refl L
  | s :: ss, L => (walkL_le g m c s L).trans (fold_le g m c ss _)
theorem fold_to {g m c : Nat} (hm : 0 < m) : ∀ (ss : List Nat) (L : Tab), L.length = m → ∀ s ∈ ss, s < m → ∀ (i j : Nat), i + j ≤ c → ∀ v, L[(s + i * g) % m]? = some (some v) → ∃ v', (ss.foldl (fun L s => walkL g m c s L) L)[(s + (i + j) * g) % m]? = some (some v') ∧ v' ≤ v + j * g
  | [], _, _, s, h, _, _, _, _, _, _ => by cases h
  | t :: ss, L, hl, s, hs, hsm, i, j, hij, v, hv => by
    by_cases e : s = t
    · subst e
      obtain ⟨v1, h1, e1⟩ := walkL_to hm c s L hl hsm i j hij v hv
      obtain ⟨v2, h2, e2⟩ := (fold_le g m c ss (walkL g m c s L)).2 _ v1 h1
      exact ⟨v2, h2, Nat.le_trans e2 e1⟩
    · have hs' : s ∈ ss := by
        rcases List.mem_cons.mp hs with h | h
        · exact absurd h e
        · exact h
      obtain ⟨v1, h1, e1⟩ := (walkL_le g m c t L).2 _ v hv
      obtain ⟨v2, h2, e2⟩ := fold_to hm ss (walkL g m c t L) ((walkL_le g m c t L).1.trans hl) s hs' hsm i j hij v1 h1
      exact ⟨v2, h2, by omega⟩
/-! ### Bezout, by Euclid -/
theorem bezout : ∀ (b a : Nat), ∃ x y : Int, (Nat.gcd a b : Int) = a * x + b * y := by
  intro b
  induction b using Nat.strongRecOn with
  | ind b ih =>
    intro a
    by_cases hb : b = 0
    · subst hb
      exact ⟨1, 0, by simp⟩
    · obtain ⟨x, y, e⟩ := ih (a % b) (Nat.mod_lt a (by omega)) b
      refine ⟨y, x - (a / b : Nat) * y, ?_⟩
      have h1 : Nat.gcd a b = Nat.gcd b (a % b) := by
        rw [Nat.gcd_comm a b, Nat.gcd_rec b a, Nat.gcd_comm]
      have h2 : (a : Int) = b * (a / b : Nat) + (a % b : Nat) := by
        have := Nat.div_add_mod a b
        omega
      rw [h1, e]
      have h3 : (a : Int) * y = b * (a / b : Nat) * y + (a % b : Nat) * y := by
        rw [← Int.add_mul, ← h2]
      rw [h3, Int.mul_sub, ← Int.mul_assoc]
      omega
/-- every remainder lies on one of the rounds -/
theorem on_round {g m q : Nat} (hm : 0 < m) (hq : q < m) : ∃ s i, s < Nat.gcd g m ∧ i < m / Nat.gcd g m ∧ (s + i * g) % m = q := by
  have hd : 0 < Nat.gcd g m := Nat.gcd_pos_of_pos_right g hm
  have dg : Nat.gcd g m ∣ g := Nat.gcd_dvd_left g m
  have dm : Nat.gcd g m ∣ m := Nat.gcd_dvd_right g m
  generalize hdd : Nat.gcd g m = d at *
  obtain ⟨x, y, e⟩ := bezout m g
  rw [hdd] at e
  have hc : 0 < m / d := Nat.div_pos (Nat.le_of_dvd hm dm) hd
  -- i = x * (q / d) mod (m / d)
  let t : Int := (x * (q / d : Nat)) % ((m / d : Nat) : Int)
  have t0 : 0 ≤ t := Int.emod_nonneg _ (by omega)
  have t1 : t < ((m / d : Nat) : Int) := Int.emod_lt_of_pos _ (by omega)
  refine ⟨q % d, t.toNat, Nat.mod_lt _ hd, by omega, ?_⟩
  have hmd : m = d * (m / d) := (Nat.mul_div_cancel' dm).symm
  obtain ⟨g', eg⟩ := dg
  -- the sum is q and a multiple of m
  have h1 : t = x * (q / d : Nat) - ((m / d : Nat) : Int) * (x * (q / d : Nat) / ((m / d : Nat) : Int)) := by
    have := Int.mul_ediv_add_emod (x * (q / d : Nat)) ((m / d : Nat) : Int)
    show (x * (q / d : Nat)) % ((m / d : Nat) : Int) = _
    omega
  generalize hz : x * (q / d : Nat) / ((m / d : Nat) : Int) = z at h1
  have h2 : (q : Int) = d * (q / d : Nat) + (q % d : Nat) := by
    have := Nat.div_add_mod q d
    omega
  have h3 : ((q % d + t.toNat * g : Nat) : Int) = (q : Int) + m * (-(y * (q / d : Nat)) - g' * z) := by
    have et : (t.toNat : Int) = t := Int.toNat_of_nonneg t0
    rw [Int.natCast_add, Int.natCast_mul, et, h1, h2]
    have em : (m : Int) = d * ((m / d : Nat) : Int) := by
      have := congrArg (fun n : Nat => (n : Int)) hmd
      simpa using this
    have eg2 : (g : Int) = d * (g' : Int) := by
      have := congrArg (fun n : Nat => (n : Int)) eg
      simpa using this
    have a1 : (x * (q / d : Nat) - ((m / d : Nat) : Int) * z) * (g : Int) = (g : Int) * x * (q / d : Nat) - ((m / d : Nat) : Int) * z * g := by
      rw [Int.sub_mul, Int.mul_comm (x * _) (g : Int), ← Int.mul_assoc]
    have a2 : (g : Int) * x = d - m * y := by omega
    have a3 : ((m / d : Nat) : Int) * z * g = m * (g' * z) := by
      rw [eg2, em, Int.mul_assoc, Int.mul_assoc, Int.mul_comm z, Int.mul_comm (d : Int) g', Int.mul_assoc, ← Int.mul_assoc (d : Int), Int.mul_comm (d : Int) ((m / d : Nat) : Int), Int.mul_assoc]
      congr 1
      rw [← Int.mul_assoc, ← Int.mul_assoc, Int.mul_comm (g' : Int) d]
    rw [a1, a2, a3, Int.sub_mul, Int.mul_sub, Int.mul_neg, Int.mul_assoc]
    omega
  have h4 : ((q % d + t.toNat * g : Nat) : Int) % m = (q : Int) := by
    rw [h3, Int.add_mul_emod_self_left]
    exact Int.emod_eq_of_lt (by omega) (by omega)
  have h5 : (((q % d + t.toNat * g) % m : Nat) : Int) = (q : Int) := by
    rw [Int.natCast_emod]
    exact h4
  omega
/-- the table says for each remainder the least sum -/
structure Exact (G : List Nat) (m : Nat) (L : Tab) : Prop where
  len : L.length = m
  sound : Sound G m L
  least : ∀ u, Sum G u → ∃ v, L[u % m]? = some (some v) ∧ v ≤ u
theorem Exact.congr {G G' : List Nat} {m : Nat} {L : Tab} (e : Exact G m L) (h : ∀ g, g ∈ G ↔ g ∈ G') : Exact G' m L :=
  ⟨e.len, fun r v hv => ⟨(Sum.congr h).mp (e.sound r v hv).1, (e.sound r v hv).2⟩, fun u hu => e.least u ((Sum.congr h).mpr hu)⟩
theorem start_exact {m : Nat} (hm : 0 < m) : Exact [] m (start m) := by
  have hl : 0 < (List.replicate m (none : Option Nat)).length := by
    rw [List.length_replicate]
    exact hm
  have g := fun j => get_set' (List.replicate m (none : Option Nat)) 0 (some 0) j hl
  refine ⟨by unfold start; rw [List.length_set, List.length_replicate], fun r v hv => ?_, fun u hu => ?_⟩
  · unfold start at hv
    rw [g] at hv
    split at hv
    · rename_i er
      cases hv
      exact ⟨.zero, by rw [er]; exact Nat.zero_mod m⟩
    · rw [List.getElem?_replicate] at hv
      split at hv <;> cases hv
  · rw [hu.nil, Nat.zero_mod]
    unfold start
    rw [g, if_pos rfl]
    exact ⟨0, rfl, Nat.le_refl _⟩
theorem oneGen_exact {G : List Nat} {g m : Nat} {L : Tab} (hm : 0 < m) (e : Exact G m L) : Exact (g :: G) m (oneGen g m L) := by
  have hd : 0 < Nat.gcd g m := Nat.gcd_pos_of_pos_right g hm
  have dm : Nat.gcd g m ∣ m := Nat.gcd_dvd_right g m
  have dg : Nat.gcd g m ∣ g := Nat.gcd_dvd_left g m
  have hdm : Nat.gcd g m ≤ m := Nat.le_of_dvd hm dm
  refine ⟨(fold_le g m _ _ L).1.trans e.len, fold_sound List.mem_cons_self _ L fun r v hv => ⟨(e.sound r v hv).1.mono fun _ h => List.mem_cons_of_mem _ h, (e.sound r v hv).2⟩, fun u hu => ?_⟩
  obtain ⟨w, j, hw, rfl⟩ := Sum.cons_iff.mp hu
  obtain ⟨v0, h0, e0⟩ := e.least w hw
  have hc : 0 < m / Nat.gcd g m := Nat.div_pos hdm hd
  -- fewer than a whole round
  have hcg : (m / Nat.gcd g m) * g = m * (g / Nat.gcd g m) := by
    obtain ⟨g', eg⟩ := dg
    obtain ⟨m', em⟩ := dm
    generalize Nat.gcd g m = d at *
    rw [em, eg, Nat.mul_div_cancel_left _ hd, Nat.mul_div_cancel_left _ hd, Nat.mul_left_comm, Nat.mul_assoc]
  have hj : j * g = (j % (m / Nat.gcd g m)) * g + m * ((j / (m / Nat.gcd g m)) * (g / Nat.gcd g m)) := by
    have := Nat.div_add_mod j (m / Nat.gcd g m)
    have h2 : j * g = ((m / Nat.gcd g m) * (j / (m / Nat.gcd g m)) + j % (m / Nat.gcd g m)) * g := by rw [this]
    rw [h2, Nat.add_mul, Nat.mul_right_comm, hcg, Nat.add_comm, Nat.mul_assoc, Nat.mul_comm (g / Nat.gcd g m)]
  generalize hjj : j % (m / Nat.gcd g m) = j' at hj
  have hj' : j' < m / Nat.gcd g m := by
    rw [← hjj]
    exact Nat.mod_lt _ hc
  obtain ⟨s, i, hs, hi, hsi⟩ := on_round (g := g) hm (Nat.mod_lt w hm)
  rw [← hsi] at h0
  have h2c : 2 * m / Nat.gcd g m = 2 * (m / Nat.gcd g m) := Nat.mul_div_assoc 2 dm
  obtain ⟨v', h', e'⟩ := fold_to (g := g) (c := 2 * m / Nat.gcd g m) hm (List.range (Nat.gcd g m)) L e.len s (List.mem_range.mpr hs) (by omega) i j' (by omega) v0 h0
  have hix : (s + (i + j') * g) % m = (w + j * g) % m := by
    rw [Nat.add_mul, ← Nat.add_assoc, Nat.add_mod, hsi, hj, ← Nat.add_assoc, Nat.add_mul_mod_self_left, Nat.mod_add_mod, Nat.add_mod_mod]
  refine ⟨v', ?_, ?_⟩
  · rw [← hix]
    exact h'
  · have : j' * g ≤ j * g := by
      rw [hj]
      exact Nat.le_add_right _ _
    omega
theorem fold_exact {m : Nat} (hm : 0 < m) : ∀ (G G0 : List Nat) (L : Tab), Exact G0 m L → Exact (G ++ G0) m (G.foldl (fun L g => oneGen g m L) L)
  | [], _, _, e => e
  | g :: G, G0, L, e => (fold_exact hm G (g :: G0) _ (oneGen_exact hm e)).congr fun x => by
    simp only [List.mem_append, List.mem_cons, List.cons_append]
    constructor
    · rintro (h | h | h)
      · exact .inr (.inl h)
      · exact .inl h
      · exact .inr (.inr h)
    · rintro (h | h | h)
      · exact .inr (.inl h)
      · exact .inl h
      · exact .inr (.inr h)
theorem leastBy_exact (G : List Nat) {m : Nat} (hm : 0 < m) : Exact G m (leastBy G m) := by
  have := fold_exact hm G [] (start m) (start_exact hm)
  rwa [List.append_nil] at this
end Sg
end

section
set_option linter.all false
set_option backward.match.sparseCases false
namespace Sg
/-- a sum by the table for the others -/
theorem Exact.sum_iff {G : List Nat} {m : Nat} {L : Tab} (hm : 0 < m) (e : Exact G m L) (n : Nat) : Sum (m :: G) n ↔ ∃ v, L[n % m]? = some (some v) ∧ v ≤ n := by
  rw [Sum.cons_iff]
  constructor
  · rintro ⟨w, j, hw, rfl⟩
    obtain ⟨v, h1, h2⟩ := e.least w hw
    refine ⟨v, ?_, Nat.le_trans h2 (Nat.le_add_right _ _)⟩
    rw [Nat.add_mul_mod_self_right]
    exact h1
  · rintro ⟨v, h1, h2⟩
    obtain ⟨s1, s2⟩ := e.sound _ v h1
    have h3 : v % m = n % m := s2
    refine ⟨v, (n - v) / m, s1, ?_⟩
    have h4 : m ∣ n - v := Nat.dvd_of_mod_eq_zero (Nat.sub_mod_eq_zero_of_mod_eq h3.symm)
    have := Nat.div_mul_cancel h4
    omega
/-! ### the greatest common divisor -/
def gcdL : List Nat → Nat
  | [] => 0
  | g :: G => Nat.gcd g (gcdL G)
theorem gcdL_dvd : ∀ (G : List Nat) (g : Nat), g ∈ G → gcdL G ∣ g
  | [], _, h => by cases h
  | a :: G, g, h => by
    rcases List.mem_cons.mp h with rfl | h
    · exact Nat.gcd_dvd_left _ _
    · exact Nat.dvd_trans (Nat.gcd_dvd_right _ _) (gcdL_dvd G g h)
theorem dvd_gcdL : ∀ (G : List Nat) (d : Nat), (∀ g ∈ G, d ∣ g) → d ∣ gcdL G
  | [], d, _ => Nat.dvd_zero d
  | a :: G, d, h => Nat.dvd_gcd (h a List.mem_cons_self) (dvd_gcdL G d fun g hg => h g (List.mem_cons_of_mem _ hg))
theorem gcdL_congr {G G' : List Nat} (h : ∀ g, g ∈ G ↔ g ∈ G') : gcdL G = gcdL G' :=
  Nat.dvd_antisymm (dvd_gcdL G' _ fun g hg => gcdL_dvd G g ((h g).mpr hg)) (dvd_gcdL G _ fun g hg => gcdL_dvd G' g ((h g).mp hg))
/-- what is left of the sums, by remainders: all multiples of the divisor, and not far out -/
theorem reach {m : Nat} (hm : 0 < m) : ∀ (G : List Nat) (k : Nat), ∃ n, Sum G n ∧ n % m = (k * gcdL G) % m ∧ n ≤ m * G.sum
  | [], k => ⟨0, .zero, by show 0 % m = (k * 0) % m; rw [Nat.mul_zero], Nat.zero_le _⟩
  | g :: G, k => by
    obtain ⟨x, y, e⟩ := bezout (gcdL G) g
    let X : Int := (k * x) % m
    let Y : Int := (k * y) % m
    have X0 : 0 ≤ X := Int.emod_nonneg _ (by omega)
    have X1 : X < m := Int.emod_lt_of_pos _ (by omega)
    have Y0 : 0 ≤ Y := Int.emod_nonneg _ (by omega)
    obtain ⟨n, hn, hr, hb⟩ := reach hm G Y.toNat
    refine ⟨n + X.toNat * g, Sum.cons_iff.mpr ⟨n, X.toNat, hn, rfl⟩, ?_, ?_⟩
    · have h1 : ((n + X.toNat * g : Nat) : Int) % m = ((k * Nat.gcd g (gcdL G) : Nat) : Int) % m := by
        have eX : (X.toNat : Int) = X := Int.toNat_of_nonneg X0
        have eY : (Y.toNat : Int) = Y := Int.toNat_of_nonneg Y0
        have hr' : (n : Int) % m = (Y * (gcdL G : Int)) % m := by
          have := congrArg (fun z : Nat => (z : Int)) hr
          simp only [Int.natCast_emod, Int.natCast_mul, eY] at this
          exact this
        have a1 : ((n + X.toNat * g : Nat) : Int) = (n : Int) + X * g := by
          rw [Int.natCast_add, Int.natCast_mul, eX]
        have a2 : ((k * Nat.gcd g (gcdL G) : Nat) : Int) = (k * y) * (gcdL G : Int) + (k * x) * g := by
          rw [Int.natCast_mul, e, Int.mul_add, Int.add_comm, Int.mul_assoc, Int.mul_assoc, Int.mul_comm y, Int.mul_comm x]
        rw [a1, a2, Int.add_emod, hr', Int.mul_emod, Int.mul_emod X, ← Int.add_emod]
        have b1 : Y % m = (k * y) % m := Int.emod_emod_of_dvd _ (Int.dvd_refl _)
        have b2 : X % m = (k * x) % m := Int.emod_emod_of_dvd _ (Int.dvd_refl _)
        rw [b1, b2, Int.add_emod (k * y * _), Int.mul_emod (k * y), Int.mul_emod (k * x), ← Int.add_emod]
      have h2 : (((n + X.toNat * g) % m : Nat) : Int) = (((k * gcdL (g :: G)) % m : Nat) : Int) := by
        rw [Int.natCast_emod, Int.natCast_emod]
        exact h1
      omega
    · have : X.toNat ≤ m := by omega
      have h3 : X.toNat * g ≤ m * g := Nat.mul_le_mul_right g this
      rw [List.sum_cons, Nat.mul_add]
      omega
theorem reach_all {m : Nat} (hm : 0 < m) {G : List Nat} (hg : gcdL G = 1) (r : Nat) (hr : r < m) : ∃ n, Sum G n ∧ n % m = r ∧ n ≤ m * G.sum := by
  obtain ⟨n, h1, h2, h3⟩ := reach hm G r
  rw [hg, Nat.mul_one, Nat.mod_eq_of_lt hr] at h2
  exact ⟨n, h1, h2, h3⟩
/-- with divisor 1 every place is filled -/
theorem Exact.full {G : List Nat} {m : Nat} {L : Tab} (hm : 0 < m) (e : Exact G m L) (hg : gcdL G = 1) (r : Nat) (hr : r < m) : ∃ v, L[r]? = some (some v) ∧ v ≤ m * G.sum := by
  obtain ⟨n, h1, h2, h3⟩ := reach_all hm hg r hr
  obtain ⟨v, h4, h5⟩ := e.least n h1
  rw [h2] at h4
  exact ⟨v, h4, Nat.le_trans h5 h3⟩
/-- beyond that all are sums -/
theorem sum_beyond {G : List Nat} {m : Nat} (hm : 0 < m) (hmG : m ∈ G) (hg : gcdL G = 1) {n : Nat} (hn : m * G.sum ≤ n) : Sum G n := by
  obtain ⟨u, h1, h2, h3⟩ := reach_all hm hg (n % m) (Nat.mod_lt n hm)
  have hle : u ≤ n := Nat.le_trans h3 hn
  have h4 : m ∣ n - u := Nat.dvd_of_mod_eq_zero (Nat.sub_mod_eq_zero_of_mod_eq h2.symm)
  have h5 := Nat.div_mul_cancel h4
  have : n = u + (n - u) / m * m := by omega
  rw [this]
  exact h1.plus (Sum.mul (.gen hmG) _)
end Sg
end

section
set_option linter.all false
set_option backward.match.sparseCases false
set_option maxRecDepth 100000
/-! The mirrors of the program's defs, told in words of sums. -/
namespace Gp
open G PySem Sg
abbrev nD (n : Nat) : D := .int (n : Int)
abbrev lD (l : List Nat) : List D := l.map nD
/-! ### loops -/
section
variable {τ : Type} {tg : SG} {f : SSg τ} {ft : STg τ} {d : D} {ds : List D} {s s1 s2 : SD} {n n1 n2 : τ}
theorem loopS_nx (h1 : tg d s = some s1) (h2 : f s1 n = .nx s2 n2) : loopS tg f (d :: ds) s n = loopS tg f ds s2 n2 := by simp only [loopS, h1, h2]
theorem loopS_ct (h1 : tg d s = some s1) (h2 : f s1 n = .ct s2 n2) : loopS tg f (d :: ds) s n = loopS tg f ds s2 n2 := by simp only [loopS, h1, h2]
theorem loopS_bk (h1 : tg d s = some s1) (h2 : f s1 n = .bk s2 n2) : loopS tg f (d :: ds) s n = .nx s2 n2 := by simp only [loopS, h1, h2]
theorem loopS_rt {v : D} (h1 : tg d s = some s1) (h2 : f s1 n = .rt v n2) : loopS tg f (d :: ds) s n = .rt v n2 := by simp only [loopS, h1, h2]
theorem loopS_ex {c : Nat} (h1 : tg d s = some s1) (h2 : f s1 n = .ex c) : loopS tg f (d :: ds) s n = .ex c := by simp only [loopS, h1, h2]
theorem sWhile_goG {k : Nat} (h1 : ft s n = .ok (true, n1)) (h2 : f s n1 = .nx s2 n2) : sWhile ft f (k + 1) s n = sWhile ft f k s2 n2 := by simp only [sWhile, h1, h2, bindS]
theorem sWhile_stopG {k : Nat} (h1 : ft s n = .ok (false, n1)) : sWhile ft f (k + 1) s n = .nx s n1 := by simp only [sWhile, h1, bindS]
theorem sWhile_rtG {k : Nat} {v : D} (h1 : ft s n = .ok (true, n1)) (h2 : f s n1 = .rt v n2) : sWhile ft f (k + 1) s n = .rt v n2 := by simp only [sWhile, h1, h2, bindS]
end
theorem loopS_run {tg : SG} {f : SS} (St : Nat → SD) {n : Nat} : ∀ (ds : List D) (k : Nat), (∀ (i : Nat) (d : D), ds[i]? = some d → ∃ s1, tg d (St (k + i)) = some s1 ∧ (f s1 n = .nx (St (k + i + 1)) n ∨ f s1 n = .ct (St (k + i + 1)) n)) → loopS tg f ds (St k) n = .nx (St (k + ds.length)) n
  | [], k, _ => rfl
  | d :: ds, k, h => by
    obtain ⟨s1, h1, h2⟩ := h 0 d rfl
    have ih := loopS_run St ds (k + 1) fun i e hi => by
      obtain ⟨s2, h3, h4⟩ := h (i + 1) e hi
      rw [show k + 1 + i = k + (i + 1) by omega]
      exact ⟨s2, h3, h4⟩
    have e1 : loopS tg f (d :: ds) (St k) n = loopS tg f ds (St (k + 1)) n := by
      rcases h2 with h2 | h2
      · exact loopS_nx h1 h2
      · exact loopS_ct h1 h2
    rw [e1, ih, List.length_cons, show k + 1 + ds.length = k + (ds.length + 1) by omega]
theorem compR_all {tg : SG} {fe : SEg τ} {s : SD} {n : τ} (h : D → D) : ∀ ds : List D, (∀ d ∈ ds, ∃ s1, tg d s = some s1 ∧ fe s1 n = .ok (h d, n)) → compR tg sYes fe s ds n = .ok (ds.map h, n)
  | [], _ => rfl
  | d :: ds, hh => by
    obtain ⟨s1, h1, h2⟩ := hh d List.mem_cons_self
    have ih := compR_all (tg := tg) (fe := fe) h ds fun e he => hh e (List.mem_cons_of_mem _ he)
    show (match tg d s with
      | some s1 => bindE (noEx (sYes s1 n)) fun b n1 => match b with
        | true => bindE (noEx (fe s1 n1)) fun y n2 => bindE (compR tg sYes fe s ds n2) fun ys n3 => .ok (y :: ys, n3)
        | false => compR tg sYes fe s ds n1
      | none => .no) = _
    rw [h1]
    show bindE (noEx (fe s1 n)) (fun y n2 => bindE (compR tg sYes fe s ds n2) fun ys n3 => .ok (y :: ys, n3)) = _
    rw [h2]
    show bindE (compR tg sYes fe s ds n) (fun ys n3 => .ok (h d :: ys, n3)) = _
    rw [ih]
    rfl
theorem compR_if {tg : SG} {ft : STg τ} {fe : SEg τ} {s : SD} {n : τ} (p : D → Bool) (h : D → D) : ∀ ds : List D, (∀ d ∈ ds, ∃ s1, tg d s = some s1 ∧ ft s1 n = .ok (p d, n) ∧ (p d = true → fe s1 n = .ok (h d, n))) → compR tg ft fe s ds n = .ok ((ds.filter p).map h, n)
  | [], _ => rfl
  | d :: ds, hh => by
    obtain ⟨s1, h1, h2, h3⟩ := hh d List.mem_cons_self
    have ih := compR_if (tg := tg) (ft := ft) (fe := fe) p h ds fun e he => hh e (List.mem_cons_of_mem _ he)
    show (match tg d s with
      | some s1 => bindE (noEx (ft s1 n)) fun b n1 => match b with
        | true => bindE (noEx (fe s1 n1)) fun y n2 => bindE (compR tg ft fe s ds n2) fun ys n3 => .ok (y :: ys, n3)
        | false => compR tg ft fe s ds n1
      | none => .no) = _
    rw [h1]
    dsimp only
    rw [h2]
    cases hp : p d with
    | true =>
      rw [List.filter_cons_of_pos hp]
      show bindE (noEx (fe s1 n)) (fun y n2 => bindE (compR tg ft fe s ds n2) fun ys n3 => .ok (y :: ys, n3)) = _
      rw [h3 hp]
      show bindE (compR tg ft fe s ds n) (fun ys n3 => .ok (h d :: ys, n3)) = _
      rw [ih]
      rfl
    | false =>
      rw [List.filter_cons_of_neg (by rw [hp]; decide)]
      show compR tg ft fe s ds n = _
      exact ih
/-! ### one statement behind another -/
theorem sSeq_nx {f g : SSg τ} {s s' : SD} {n n' : τ} (h : f s n = .nx s' n') : sSeq f g s n = g s' n' := by
  unfold sSeq
  rw [h]
theorem sSeq_rt {f g : SSg τ} {s : SD} {n n' : τ} {d : D} (h : f s n = .rt d n') : sSeq f g s n = .rt d n' := by
  unfold sSeq
  rw [h]
theorem sSeq_ex {f g : SSg τ} {s : SD} {n : τ} {c : Nat} (h : f s n = .ex c) : sSeq f g s n = .ex c := by
  unfold sSeq
  rw [h]
theorem sFor_eq {it : SIg τ} {tg : SG} {f : SSg τ} {s : SD} {n n1 : τ} {ds : List D} (h : it s n = .ok (ds, n1)) : sFor it tg f s n = loopS tg f ds s n1 := by
  unfold sFor
  rw [h]
  rfl
theorem sIfS_t {ft : STg τ} {f g : SSg τ} {s : SD} {n n1 : τ} (h : ft s n = .ok (true, n1)) : sIfS ft f g s n = f s n1 := by
  unfold sIfS
  rw [h]
  rfl
theorem sIfS_f {ft : STg τ} {f g : SSg τ} {s : SD} {n n1 : τ} (h : ft s n = .ok (false, n1)) : sIfS ft f g s n = g s n1 := by
  unfold sIfS
  rw [h]
  rfl
theorem sAsg_eq {i : Nat} {fe : SEg τ} {s : SD} {n n1 : τ} {d : D} (h : fe s n = .ok (d, n1)) : sAsg i fe s n = .nx (s.set i (.im d)) n1 := by
  unfold sAsg
  rw [h]
  rfl
theorem sRet_eq {fe : SEg τ} {s : SD} {n n1 : τ} {d : D} (h : fe s n = .ok (d, n1)) : sRet fe s n = .rt d n1 := by
  unfold sRet
  rw [h]
  rfl
/-! ### while -/
theorem sWhile_go {ft : ST} {f : SS} {k : Nat} {s s2 : SD} {n n1 n2 : Nat} (h1 : ft s n = .ok (true, n1)) (h2 : f s n1 = .nx s2 n2) : sWhile ft f (k + 1) s n = sWhile ft f k s2 n2 := by
  exact sWhile_goG h1 h2
theorem sWhile_stop {ft : ST} {f : SS} {k : Nat} {s : SD} {n n1 : Nat} (h1 : ft s n = .ok (false, n1)) : sWhile ft f (k + 1) s n = .nx s n1 := by
  show bindS (ft s n) _ = _
  rw [h1]
  rfl
theorem dMod_n {a b : Nat} (h : 0 < b) : dMod (nD a) (nD b) = some (nD (a % b)) := by
  show (if posI (b : Int) = true then some (D.int ((a : Int) % (b : Int))) else none) = _
  rw [if_pos (posI_of (by omega)), ← Int.natCast_emod]
theorem dAdd_n (a b : Nat) : dAdd (nD a) (nD b) = some (nD (a + b)) := by
  show some (D.int ((a : Int) + (b : Int))) = _
  rw [← Int.natCast_add]
theorem dGt_n (a b : Nat) : dGt (nD a) (nD b) = some (.bl (decide (b < a))) := by
  show some (D.bl (ltI (b : Int) (a : Int))) = _
  rw [ltI_eq]
  congr 2
  exact decide_eq_decide.mpr (by omega)
theorem dLt_n (a b : Nat) : dLt (nD a) (nD b) = some (.bl (decide (a < b))) := by
  show some (D.bl (ltI (a : Int) (b : Int))) = _
  rw [ltI_eq]
  congr 2
  exact decide_eq_decide.mpr (by omega)
theorem dLe_n (a b : Nat) : dLe (nD a) (nD b) = some (.bl (decide (a ≤ b))) := by
  show some (D.bl (leI (a : Int) (b : Int))) = _
  rw [leI_eq]
  congr 2
  exact decide_eq_decide.mpr (by omega)
theorem dGe_n (a b : Nat) : dGe (nD a) (nD b) = some (.bl (decide (b ≤ a))) := by
  show some (D.bl (leI (b : Int) (a : Int))) = _
  rw [leI_eq]
  congr 2
  exact decide_eq_decide.mpr (by omega)
/-! ### divisor_of -/
theorem while_div (n : Nat) : ∀ (k a b : Nat), b < k → sWhile (sTest (sOp dGt (sVar 1) (sC (.int 0)))) (sPar 0 1 (sCons (sVar 1) (sCons (sOp dMod (sVar 0) (sVar 1)) sNil))) k [.im (nD a), .im (nD b)] n = .nx [.im (nD (Nat.gcd a b)), .im (nD 0)] n
  | 0, _, _, h => by omega
  | k + 1, a, b, h => by
    have t1 : (sTest (sOp dGt (sVar 1) (sC (.int 0)))) [.im (nD a), .im (nD b)] n = .ok (decide (0 < b), n) := by
      have := dGt_n b 0
      simp only [sSeq, sNext, sIfS, sRet, sDrop, sAsg, sPar, sAug, sAsgN, sParN, sParM, sApp, sExt, sSetIx, sFrz, sRaise, sVar, sC, sOp, sUn, sCb, sCons, sConsTw, sNil, sTup, sLst, nLst, nOp, sNw, sTest, sAnd, sOr, sNot, sAndV, sOrV, sNotV, sIf, sChain, sIxOw, sLenOw, sSl, sSlOw, sPart, sNoPart, sCallP, sCallT, liftR, noEx, sThaw, sThawT, sIsi, sFor, nSeq, nRng1, nRng2, nLc, sTick, sYes, bindE, bindS, optE, asB, asI, G.plain, gN, gT, gTs, wipeD, Option.map, Option.bind, List.getElem?_cons_zero, List.getElem?_cons_succ, List.set_cons_zero, List.set_cons_succ, List.getElem?_nil, List.length_cons, List.length_nil, show dGt (D.int b) (D.int 0) = _ from this]
    by_cases hb : b = 0
    · subst hb
      rw [Nat.gcd_zero_right]
      exact sWhile_stop t1
    · have hpos : 0 < b := by omega
      rw [decide_eq_true hpos] at t1
      have t2 : (sPar 0 1 (sCons (sVar 1) (sCons (sOp dMod (sVar 0) (sVar 1)) sNil))) [.im (nD a), .im (nD b)] n = .nx [.im (nD b), .im (nD (a % b))] n := by
        simp only [sSeq, sNext, sIfS, sRet, sDrop, sAsg, sPar, sAug, sAsgN, sParN, sParM, sApp, sExt, sSetIx, sFrz, sRaise, sVar, sC, sOp, sUn, sCb, sCons, sConsTw, sNil, sTup, sLst, nLst, nOp, sNw, sTest, sAnd, sOr, sNot, sAndV, sOrV, sNotV, sIf, sChain, sIxOw, sLenOw, sSl, sSlOw, sPart, sNoPart, sCallP, sCallT, liftR, noEx, sThaw, sThawT, sIsi, sFor, nSeq, nRng1, nRng2, nLc, sTick, sYes, bindE, bindS, optE, asB, asI, G.plain, gN, gT, gTs, wipeD, Option.map, Option.bind, List.getElem?_cons_zero, List.getElem?_cons_succ, List.set_cons_zero, List.set_cons_succ, List.getElem?_nil, List.length_cons, List.length_nil, dMod_n hpos]
      rw [sWhile_go t1 t2, while_div n k b (a % b) (by have := Nat.mod_lt a hpos; omega), Nat.gcd_comm a b, Nat.gcd_rec b a, Nat.gcd_comm]
theorem divisor_eq {a b : Nat} (hb : b < 1000000) : g_divisor_of [nD a, nD b] = .ok (nD (Nat.gcd a b)) := by
  have h := while_div 0 FUEL a b hb
  show endP (sSeq _ _ [.im (nD a), .im (nD b)] 0) = _
  unfold sSeq
  rw [h]
  rfl
/-! ### common_divisor -/
theorem loopS_fold {f : SS} {j : Nat} {n : Nat} (St : Nat → SD) {ds : List D} {s : SD} (h0 : s = St 0) (h : ∀ (i : Nat) (d : D), ds[i]? = some d → f ((St i).set j (.im d)) n = .nx (St (i + 1)) n) : loopS (gN j) f ds s n = .nx (St ds.length) n := by
  subst h0
  have := loopS_run (tg := gN j) (f := f) St (n := n) ds 0 fun i d hi => ⟨_, rfl, .inl (by rw [Nat.zero_add]; exact h i d hi)⟩
  rwa [Nat.zero_add] at this
theorem lD_get {l : List Nat} {i : Nat} {d : D} (h : (lD l)[i]? = some d) : ∃ x, l[i]? = some x ∧ d = nD x := by
  rw [List.getElem?_map] at h
  cases e : l[i]? with
  | none => rw [e] at h; cases h
  | some x => rw [e] at h; exact ⟨x, rfl, (Option.some.inj h).symm⟩
/-- the divisor, from the left -/
def gcdF (l : List Nat) : Nat := l.foldl (fun r x => Nat.gcd x r) 0
theorem gcdF_eq (l : List Nat) : gcdF l = gcdL l := by
  have h : ∀ (l : List Nat) (r : Nat), l.foldl (fun r x => Nat.gcd x r) r = Nat.gcd r (gcdL l) := by
    intro l
    induction l with
    | nil => intro r; exact (Nat.gcd_zero_right r).symm
    | cons x l ih =>
      intro r
      show l.foldl (fun r x => Nat.gcd x r) (Nat.gcd x r) = Nat.gcd r (Nat.gcd x (gcdL l))
      rw [ih, Nat.gcd_comm x r, Nat.gcd_assoc]
  unfold gcdF
  rw [h, Nat.gcd_zero_left]
theorem foldl_take {α β : Type} (g : β → α → β) (b : β) (l : List α) (i : Nat) (x : α) (h : l[i]? = some x) : (l.take (i + 1)).foldl g b = g ((l.take i).foldl g b) x := by
  rw [List.take_add_one, h, List.foldl_append]
  rfl
theorem gcdF_le : ∀ (l : List Nat) (B : Nat), (∀ x ∈ l, x < B) → 0 < B → gcdF l < B := by
  intro l B h hB
  rw [gcdF_eq]
  cases l with
  | nil => exact hB
  | cons x l =>
    by_cases hx : x = 0
    · subst hx
      show Nat.gcd 0 (gcdL l) < B
      rw [Nat.gcd_zero_left, ← gcdF_eq]
      exact gcdF_le l B (fun y hy => h y (List.mem_cons_of_mem _ hy)) hB
    · exact Nat.lt_of_le_of_lt (Nat.gcd_le_left _ (by omega)) (h x List.mem_cons_self)
theorem common_eq {l : List Nat} {c : D} (hc : c = .lst (lD l) ∨ c = .tup (lD l)) (hl : ∀ x ∈ l, x < 1000000) : g_common_divisor [c] = .ok (nD (gcdL l)) := by
  have hs : seqOf c = some (lD l) := by
    rcases hc with rfl | rfl <;> rfl
  let St : Nat → SD := fun i => [.im c, .im (nD (gcdF (l.take i))), if i = 0 then .un else .im (nD (l.getD (i - 1) 0))]
  have hloop : loopS (gN 2) (sAsg 1 (sCallP g_divisor_of (sCons (sVar 2) (sCons (sVar 1) sNil)))) (lD l) [.im c, .im (nD 0), .un] 0 = .nx (St (lD l).length) 0 := by
    refine loopS_fold St rfl fun i d hi => ?_
    obtain ⟨x, hx, rfl⟩ := lD_get hi
    have hb : gcdF (l.take i) < 1000000 := gcdF_le _ _ (fun y hy => hl y (List.mem_of_mem_take hy)) (by decide)
    have e1 : gcdF (l.take (i + 1)) = Nat.gcd x (gcdF (l.take i)) := foldl_take _ _ _ _ _ hx
    have e2 : l.getD i 0 = x := by rw [List.getD_eq_getElem?_getD, hx]; rfl
    show (sAsg 1 (sCallP g_divisor_of (sCons (sVar 2) (sCons (sVar 1) sNil)))) [.im c, .im (nD (gcdF (l.take i))), .im (nD x)] 0 = _
    simp only [sSeq, sNext, sIfS, sRet, sDrop, sAsg, sPar, sAug, sAsgN, sParN, sParM, sApp, sExt, sSetIx, sFrz, sRaise, sVar, sC, sOp, sUn, sCb, sCons, sConsTw, sNil, sTup, sLst, nLst, nOp, sNw, sTest, sAnd, sOr, sNot, sAndV, sOrV, sNotV, sIf, sChain, sIxOw, sLenOw, sSl, sSlOw, sPart, sNoPart, sCallP, sCallT, liftR, noEx, sThaw, sThawT, sIsi, sFor, nSeq, nRng1, nRng2, nLc, sTick, sYes, bindE, bindS, optE, asB, asI, G.plain, gN, gT, gTs, wipeD, Option.map, Option.bind, List.getElem?_cons_zero, List.getElem?_cons_succ, List.set_cons_zero, List.set_cons_succ, List.getElem?_nil, List.length_cons, List.length_nil, divisor_eq hb]
    show FLg.nx [.im c, .im (nD (Nat.gcd x (gcdF (l.take i)))), .im (nD x)] 0 = FLg.nx [.im c, .im (nD (gcdF (l.take (i + 1)))), .im (nD (l.getD i 0))] 0
    rw [e1, e2]
  show endP (f_common_divisor [.im c, .un, .un] 0) = _
  have e3 : f_common_divisor [.im c, .un, .un] 0 = .rt (nD (gcdF l)) 0 := by
    unfold f_common_divisor
    simp only [sSeq, sNext, sIfS, sRet, sDrop, sAsg, sPar, sAug, sAsgN, sParN, sParM, sApp, sExt, sSetIx, sFrz, sRaise, sVar, sC, sOp, sUn, sCb, sCons, sConsTw, sNil, sTup, sLst, nLst, nOp, sNw, sTest, sAnd, sOr, sNot, sAndV, sOrV, sNotV, sIf, sChain, sIxOw, sLenOw, sSl, sSlOw, sPart, sNoPart, sCallP, sCallT, liftR, noEx, sThaw, sThawT, sIsi, sFor, nSeq, nRng1, nRng2, nLc, sTick, sYes, bindE, bindS, optE, asB, asI, G.plain, gN, gT, gTs, wipeD, Option.map, Option.bind, List.getElem?_cons_zero, List.getElem?_cons_succ, List.set_cons_zero, List.set_cons_succ, List.getElem?_nil, List.length_cons, List.length_nil, hs]
    rw [show (D.int 0) = nD 0 from rfl, hloop]
    show FLg.rt (nD (gcdF (l.take (lD l).length))) 0 = _
    rw [List.length_map, List.take_length]
  rw [e3, gcdF_eq]
  rfl
end Gp
end

section
set_option linter.all false
set_option backward.match.sparseCases false
set_option maxRecDepth 100000
namespace Gp
open G PySem Sg
def oD : Option Nat → D
  | none => .non
  | some v => nD v
abbrev tD (L : Tab) : List D := L.map oD
theorem tD_len (L : Tab) : (tD L).length = L.length := List.length_map ..
theorem loopS_inv {tg : SG} {f : SSg τ} {n : τ} (Inv : Nat → SD → Prop) : ∀ (ds : List D) (k : Nat) (s : SD), Inv k s → (∀ (i : Nat) (d : D) (s : SD), ds[i]? = some d → Inv (k + i) s → ∃ s1 s2, tg d s = some s1 ∧ f s1 n = .nx s2 n ∧ Inv (k + i + 1) s2) → ∃ s', loopS tg f ds s n = .nx s' n ∧ Inv (k + ds.length) s'
  | [], k, s, h, _ => ⟨s, rfl, h⟩
  | d :: ds, k, s, h, hs => by
    obtain ⟨s1, s2, h1, h2, h3⟩ := hs 0 d s rfl h
    obtain ⟨s', e1, e2⟩ := loopS_inv (tg := tg) (f := f) (n := n) Inv ds (k + 1) s2 h3 fun i e s hi hI => by
      have := hs (i + 1) e s hi (by rw [show k + (i + 1) = k + 1 + i by omega]; exact hI)
      rw [show k + 1 + i = k + (i + 1) by omega]
      exact this
    refine ⟨s', ?_, by rw [List.length_cons, show k + (ds.length + 1) = k + 1 + ds.length by omega]; exact e2⟩
    rw [← e1]
    exact loopS_nx h1 h2
theorem loopS_inv0 {tg : SG} {f : SSg τ} {n : τ} (Inv : Nat → SD → Prop) {ds : List D} {s : SD} (h0 : Inv 0 s) (hs : ∀ (i : Nat) (d : D) (s : SD), ds[i]? = some d → Inv i s → ∃ s1 s2, tg d s = some s1 ∧ f s1 n = .nx s2 n ∧ Inv (i + 1) s2) : ∃ s', loopS tg f ds s n = .nx s' n ∧ Inv ds.length s' := by
  have := loopS_inv (tg := tg) (f := f) (n := n) Inv ds 0 s h0 fun i d s hi hI => by
    rw [Nat.zero_add] at hI ⊢
    exact hs i d s hi hI
  rwa [Nat.zero_add] at this
theorem ixN_n {n j : Nat} (h : j < n) : L2.ixN n (j : Int) = some j := by
  unfold L2.ixN
  rw [if_pos (by omega), if_pos (by omega)]
  simp
theorem atI_n {α : Type} {xs : List α} {j : Nat} (h : j < xs.length) : L2.atI xs (j : Int) = some xs[j] := L2.atI_nat (List.getElem?_eq_getElem h)
theorem tD_at {L : Tab} {p : Nat} {o : Option Nat} (h : L[p]? = some o) : L2.atI (tD L) (p : Int) = some (oD o) := L2.atI_nat (by rw [List.getElem?_map, h]; rfl)
theorem dMul2 (m : Nat) : dMul (.int 2) (nD m) = some (nD (2 * m)) := by
  show (if mulOk 2 m = true then some (D.int (2 * (m : Int))) else none) = _
  rw [if_pos]
  · have : (2 * (m : Int)) = ((2 * m : Nat) : Int) := by omega
    rw [this]
  · rfl
theorem dFdiv_n {a b : Nat} (h : 0 < b) (h2 : b < 1000000) : dFdiv (nD a) (nD b) = some (nD (a / b)) := by
  show (if posI (b : Int) = true ∧ okI 1073741824 (b : Int) = true then some (D.int ((a : Int) / (b : Int))) else none) = _
  rw [if_pos ⟨posI_of (by omega), okI_of (by omega) (by omega)⟩, ← Int.natCast_ediv]
theorem oD_isN : ∀ o : Option Nat, isN (oD o) = o.isNone
  | none => rfl
  | some _ => rfl
theorem tD_set (L : Tab) (i : Nat) (v : Nat) : (tD L).set i (nD v) = tD (L.set i (some v)) := by
  show _ = (L.set i (some v)).map oD
  rw [List.map_set]
  rfl
/-! ### least_by: the way round -/
abbrev lbT : ST := sTest (sOp dLt (sVar 6) (sOp dFdiv (sOp dMul (sC (.int 2)) (sVar 1)) (sCallP g_divisor_of (sCons (sVar 3) (sCons (sVar 1) sNil)))))
abbrev lbIf : ST := sAnd (sTest (sOp dIsNot (sIxOw 2 (sVar 5)) (sC .non))) (sOr (sTest (sOp dIs (sIxOw 2 (sVar 7)) (sC .non))) (sTest (sOp dLt (sOp dAdd (sIxOw 2 (sVar 5)) (sVar 3)) (sIxOw 2 (sVar 7)))))
abbrev lbB : SS := sSeq (sAsg 7 (sOp dMod (sOp dAdd (sVar 5) (sVar 3)) (sVar 1)))
  (sSeq (sIfS lbIf (sSetIx 2 (sVar 7) (sOp dAdd (sIxOw 2 (sVar 5)) (sVar 3))) sNext)
  (sPar 5 6 (sCons (sVar 7) (sCons (sOp dAdd (sVar 6) (sC (.int 1))) sNil))))
theorem lb_test {Gd s0 : D} {m g p r n : Nat} {L : List D} {x7 : SV} (hm : 0 < m) (hm2 : m < 1000000) : lbT [.im Gd, .im (nD m), .ow L, .im (nD g), .im s0, .im (nD p), .im (nD r), x7] n = .ok (decide (r < 2 * m / Nat.gcd g m), n) := by
  have hd : 0 < Nat.gcd g m := Nat.gcd_pos_of_pos_right g hm
  have hd2 : Nat.gcd g m ≤ m := Nat.gcd_le_right g hm
  simp only [sSeq, sNext, sIfS, sRet, sDrop, sAsg, sPar, sAug, sAsgN, sParN, sParM, sApp, sExt, sSetIx, sFrz, sRaise, sVar, sC, sOp, sUn, sCb, sCons, sConsTw, sNil, sTup, sLst, nLst, nOp, sNw, sTest, sAnd, sOr, sNot, sAndV, sOrV, sNotV, sIf, sChain, sIxOw, sLenOw, sSl, sSlOw, sPart, sNoPart, sCallP, sCallT, liftR, noEx, sThaw, sThawT, sIsi, sFor, nSeq, nRng1, nRng2, nLc, sTick, sYes, bindE, bindS, optE, asB, asI, G.plain, gN, gT, gTs, wipeD, Option.map, Option.bind, List.getElem?_cons_zero, List.getElem?_cons_succ, List.set_cons_zero, List.set_cons_succ, List.getElem?_nil, List.length_cons, List.length_nil, divisor_eq hm2, dMul2, dFdiv_n hd (by omega), dLt_n]
theorem lb_body {Gd s0 : D} {m g p r n : Nat} {L : Tab} {x7 : SV} (hm : 0 < m) (hl : L.length = m) (hp : p < m) :
    lbB [.im Gd, .im (nD m), .ow (tD L), .im (nD g), .im s0, .im (nD p), .im (nD r), x7] n = .nx [.im Gd, .im (nD m), .ow (tD (stepL g m p L)), .im (nD g), .im s0, .im (nD ((p + g) % m)), .im (nD (r + 1)), .im (nD ((p + g) % m))] n := by
  have ha : (p + g) % m < m := Nat.mod_lt _ hm
  obtain ⟨op, gp⟩ : ∃ o, L[p]? = some o := ⟨_, List.getElem?_eq_getElem (by omega)⟩
  obtain ⟨oa, ga⟩ : ∃ o, L[(p + g) % m]? = some o := ⟨_, List.getElem?_eq_getElem (by omega)⟩
  have e1 := dAdd_n p g
  have e2 : dMod (nD (p + g)) (nD m) = some (nD ((p + g) % m)) := dMod_n hm
  have e3 : dAdd (nD r) (.int 1) = some (nD (r + 1)) := dAdd_n r 1
  have e4 := tD_at gp
  have e5 := tD_at ga
  have e6 : L2.ixN (tD L).length (((p + g) % m : Nat) : Int) = some ((p + g) % m) := ixN_n (by rw [tD_len]; omega)
  unfold stepL
  rw [gp]
  generalize (p + g) % m = a at *
  cases op with
  | none =>
    have e4 : L2.atI (tD L) (p : Int) = some .non := e4
    simp only [sSeq, sNext, sIfS, sRet, sDrop, sAsg, sPar, sAug, sAsgN, sParN, sParM, sApp, sExt, sSetIx, sFrz, sRaise, sVar, sC, sOp, sUn, sCb, sCons, sConsTw, sNil, sTup, sLst, nLst, nOp, sNw, sTest, sAnd, sOr, sNot, sAndV, sOrV, sNotV, sIf, sChain, sIxOw, sLenOw, sSl, sSlOw, sPart, sNoPart, sCallP, sCallT, liftR, noEx, sThaw, sThawT, sIsi, sFor, nSeq, nRng1, nRng2, nLc, sTick, sYes, bindE, bindS, optE, asB, asI, G.plain, gN, gT, gTs, wipeD, Option.map, Option.bind, List.getElem?_cons_zero, List.getElem?_cons_succ, List.set_cons_zero, List.set_cons_succ, List.getElem?_nil, List.length_cons, List.length_nil, e1, e2, e3, e4, dIsNot, isN, Bool.not_true]
  | some v =>
    have e4 : L2.atI (tD L) (p : Int) = some (nD v) := e4
    have e7 := dAdd_n v g
    rw [ga]
    cases oa with
    | none =>
      have e5 : L2.atI (tD L) (a : Int) = some .non := e5
      dsimp only
      rw [← tD_set]
      simp only [sSeq, sNext, sIfS, sRet, sDrop, sAsg, sPar, sAug, sAsgN, sParN, sParM, sApp, sExt, sSetIx, sFrz, sRaise, sVar, sC, sOp, sUn, sCb, sCons, sConsTw, sNil, sTup, sLst, nLst, nOp, sNw, sTest, sAnd, sOr, sNot, sAndV, sOrV, sNotV, sIf, sChain, sIxOw, sLenOw, sSl, sSlOw, sPart, sNoPart, sCallP, sCallT, liftR, noEx, sThaw, sThawT, sIsi, sFor, nSeq, nRng1, nRng2, nLc, sTick, sYes, bindE, bindS, optE, asB, asI, G.plain, gN, gT, gTs, wipeD, Option.map, Option.bind, List.getElem?_cons_zero, List.getElem?_cons_succ, List.set_cons_zero, List.set_cons_succ, List.getElem?_nil, List.length_cons, List.length_nil, e1, e2, e3, e4, e5, e6, e7, dIsNot, dIs, isN, Bool.not_false]
    | some w =>
      have e5 : L2.atI (tD L) (a : Int) = some (nD w) := e5
      have e8 := dLt_n (v + g) w
      dsimp only
      by_cases hw : v + g < w
      · rw [if_pos hw, ← tD_set]
        rw [decide_eq_true hw] at e8
        simp only [sSeq, sNext, sIfS, sRet, sDrop, sAsg, sPar, sAug, sAsgN, sParN, sParM, sApp, sExt, sSetIx, sFrz, sRaise, sVar, sC, sOp, sUn, sCb, sCons, sConsTw, sNil, sTup, sLst, nLst, nOp, sNw, sTest, sAnd, sOr, sNot, sAndV, sOrV, sNotV, sIf, sChain, sIxOw, sLenOw, sSl, sSlOw, sPart, sNoPart, sCallP, sCallT, liftR, noEx, sThaw, sThawT, sIsi, sFor, nSeq, nRng1, nRng2, nLc, sTick, sYes, bindE, bindS, optE, asB, asI, G.plain, gN, gT, gTs, wipeD, Option.map, Option.bind, List.getElem?_cons_zero, List.getElem?_cons_succ, List.set_cons_zero, List.set_cons_succ, List.getElem?_nil, List.length_cons, List.length_nil, e1, e2, e3, e4, e5, e6, e7, e8, dIsNot, dIs, isN, Bool.not_false]
      · rw [if_neg hw]
        rw [decide_eq_false hw] at e8
        simp only [sSeq, sNext, sIfS, sRet, sDrop, sAsg, sPar, sAug, sAsgN, sParN, sParM, sApp, sExt, sSetIx, sFrz, sRaise, sVar, sC, sOp, sUn, sCb, sCons, sConsTw, sNil, sTup, sLst, nLst, nOp, sNw, sTest, sAnd, sOr, sNot, sAndV, sOrV, sNotV, sIf, sChain, sIxOw, sLenOw, sSl, sSlOw, sPart, sNoPart, sCallP, sCallT, liftR, noEx, sThaw, sThawT, sIsi, sFor, nSeq, nRng1, nRng2, nLc, sTick, sYes, bindE, bindS, optE, asB, asI, G.plain, gN, gT, gTs, wipeD, Option.map, Option.bind, List.getElem?_cons_zero, List.getElem?_cons_succ, List.set_cons_zero, List.set_cons_succ, List.getElem?_nil, List.length_cons, List.length_nil, e1, e2, e3, e4, e5, e6, e7, e8, dIsNot, dIs, isN, Bool.not_false]
theorem lb_while {Gd s0 : D} {m g n : Nat} (hm : 0 < m) (hm2 : m < 1000000) : ∀ (j k r p : Nat) (L : Tab) (x7 : SV), r + j = 2 * m / Nat.gcd g m → j < k → p < m → L.length = m →
    ∃ p' x', sWhile lbT lbB k [.im Gd, .im (nD m), .ow (tD L), .im (nD g), .im s0, .im (nD p), .im (nD r), x7] n = .nx [.im Gd, .im (nD m), .ow (tD (walkL g m j p L)), .im (nD g), .im s0, .im (nD p'), .im (nD (2 * m / Nat.gcd g m)), x'] n
  | j, 0, _, _, _, _, _, h, _, _ => by omega
  | 0, k + 1, r, p, L, x7, hr, _, hp, hl => by
    have er : r = 2 * m / Nat.gcd g m := by omega
    refine ⟨p, x7, ?_⟩
    rw [sWhile_stop (by rw [lb_test hm hm2, decide_eq_false (by omega)]), er]
    rfl
  | j + 1, k + 1, r, p, L, x7, hr, hk, hp, hl => by
    obtain ⟨p', x', h⟩ := lb_while (Gd := Gd) (s0 := s0) (g := g) (n := n) hm hm2 j k (r + 1) ((p + g) % m) (stepL g m p L) (.im (nD ((p + g) % m))) (by omega) (by omega) (Nat.mod_lt _ hm) ((stepL_le g m p L).1.trans hl)
    refine ⟨p', x', ?_⟩
    rw [sWhile_go (by rw [lb_test hm hm2, decide_eq_true (by omega)]) (lb_body hm hl hp)]
    exact h
theorem rangeD_nat {n i : Nat} {d : D} (h : (rangeD 0 n)[i]? = some d) : i < n ∧ d = nD i := by
  obtain ⟨h1, h2⟩ := rangeD_get h
  exact ⟨h1, by rw [h2, Int.zero_add]⟩
theorem rangeD_len (lo : Int) (n : Nat) : (rangeD lo n).length = n := by
  unfold rangeD
  rw [List.length_map, List.length_range]
theorem lim62_n {n : Nat} (h : n < 1000000) : lim62 (n : Int) = true := by
  unfold lim62
  exact okI_of (by omega) (by omega)
abbrev lbIn : SS := sFor (nRng1 (sCons (sCallP g_divisor_of (sCons (sVar 3) (sCons (sVar 1) sNil))) sNil)) (gN 4) (sSeq (sPar 5 6 (sCons (sVar 4) (sCons (sC (.int 0)) sNil))) (sWhile lbT lbB FUEL))
theorem range_fold {α : Type} (f : α → Nat → α) (a : α) (i : Nat) : (List.range (i + 1)).foldl f a = f ((List.range i).foldl f a) i := by
  rw [List.range_succ, List.foldl_append]
  rfl
theorem fold_len (g m c : Nat) (ss : List Nat) (L : Tab) : (ss.foldl (fun L s => walkL g m c s L) L).length = L.length := (fold_le g m c ss L).1
theorem lb_inner {Gd : D} {m g n : Nat} {L : Tab} (hm : 0 < m) (hm2 : m < 400000) (hl : L.length = m) (x4 x5 x6 x7 : SV) :
    ∃ y4 y5 y6 y7, lbIn [.im Gd, .im (nD m), .ow (tD L), .im (nD g), x4, x5, x6, x7] n = .nx [.im Gd, .im (nD m), .ow (tD (oneGen g m L)), .im (nD g), y4, y5, y6, y7] n := by
  have hd : 0 < Nat.gcd g m := Nat.gcd_pos_of_pos_right g hm
  have hd2 : Nat.gcd g m ≤ m := Nat.gcd_le_right g hm
  have hc : 2 * m / Nat.gcd g m ≤ 2 * m := Nat.div_le_self _ _
  obtain ⟨s', e, y4, y5, y6, y7, es⟩ := loopS_inv0 (tg := gN 4) (f := sSeq (sPar 5 6 (sCons (sVar 4) (sCons (sC (.int 0)) sNil))) (sWhile lbT lbB FUEL)) (n := n)
    (fun i s => ∃ y4 y5 y6 y7, s = [.im Gd, .im (nD m), .ow (tD ((List.range i).foldl (fun L s => walkL g m (2 * m / Nat.gcd g m) s L) L)), .im (nD g), y4, y5, y6, y7])
    (ds := rangeD 0 (Nat.gcd g m)) (s := [.im Gd, .im (nD m), .ow (tD L), .im (nD g), x4, x5, x6, x7]) ⟨x4, x5, x6, x7, rfl⟩ fun i d s hi hI => by
      obtain ⟨hlt, rfl⟩ := rangeD_nat hi
      obtain ⟨y4, y5, y6, y7, rfl⟩ := hI
      obtain ⟨p', x', hw⟩ := lb_while (Gd := Gd) (s0 := nD i) (g := g) (n := n) hm (by omega) (2 * m / Nat.gcd g m) FUEL 0 i ((List.range i).foldl (fun L s => walkL g m (2 * m / Nat.gcd g m) s L) L) y7 (by omega) (by show _ < 1000000; omega) (by omega) (by rw [fold_len]; exact hl)
      refine ⟨_, _, rfl, ?_, .im (nD i), .im (nD p'), .im (nD (2 * m / Nat.gcd g m)), x', rfl⟩
      rw [range_fold]
      simp only [sSeq, sNext, sIfS, sRet, sDrop, sAsg, sPar, sAug, sAsgN, sParN, sParM, sApp, sExt, sSetIx, sFrz, sRaise, sVar, sC, sOp, sUn, sCb, sCons, sConsTw, sNil, sTup, sLst, nLst, nOp, sNw, sTest, sAnd, sOr, sNot, sAndV, sOrV, sNotV, sIf, sChain, sIxOw, sLenOw, sSl, sSlOw, sPart, sNoPart, sCallP, sCallT, liftR, noEx, sThaw, sThawT, sIsi, sFor, nSeq, nRng1, nRng2, nLc, sTick, sYes, bindE, bindS, optE, asB, asI, G.plain, gN, gT, gTs, wipeD, Option.map, Option.bind, List.getElem?_cons_zero, List.getElem?_cons_succ, List.set_cons_zero, List.set_cons_succ, List.getElem?_nil, List.length_cons, List.length_nil]
      exact hw
  rw [rangeD_len] at es
  refine ⟨y4, y5, y6, y7, ?_⟩
  have el := lim62_n (n := Nat.gcd g m) (by omega)
  show sFor _ _ _ _ _ = _
  simp only [sSeq, sNext, sIfS, sRet, sDrop, sAsg, sPar, sAug, sAsgN, sParN, sParM, sApp, sExt, sSetIx, sFrz, sRaise, sVar, sC, sOp, sUn, sCb, sCons, sConsTw, sNil, sTup, sLst, nLst, nOp, sNw, sTest, sAnd, sOr, sNot, sAndV, sOrV, sNotV, sIf, sChain, sIxOw, sLenOw, sSl, sSlOw, sPart, sNoPart, sCallP, sCallT, liftR, noEx, sThaw, sThawT, sIsi, sFor, nSeq, nRng1, nRng2, nLc, sTick, sYes, bindE, bindS, optE, asB, asI, G.plain, gN, gT, gTs, wipeD, Option.map, Option.bind, List.getElem?_cons_zero, List.getElem?_cons_succ, List.set_cons_zero, List.set_cons_succ, List.getElem?_nil, List.length_cons, List.length_nil, divisor_eq (show m < 1000000 by omega), el, if_true, Int.toNat_natCast]
  rw [e, es]
  rfl
theorem big_of {n : Nat} (h : n < 10000000) : n < big := h
theorem flat_non : ∀ m : Nat, (List.replicate m [D.non]).flatten = tD (List.replicate m none)
  | 0 => rfl
  | m + 1 => by
    rw [List.replicate_succ, List.flatten_cons, flat_non m, List.replicate_succ]
    rfl
theorem lMul_non {m : Nat} (hm : m < 1000000) : lMul (.lst [.non]) (nD m) = some (tD (List.replicate m none)) := by
  unfold lMul
  dsimp only
  rw [if_pos, Int.toNat_natCast, flat_non]
  refine ⟨okI_of (by omega) (by omega), big_of ?_⟩
  rw [Int.toNat_natCast, List.length_singleton]
  omega
theorem gens_len (m : Nat) : ∀ (l : List Nat) (L : Tab), (l.foldl (fun L g => oneGen g m L) L).length = L.length := by
  intro l
  induction l with
  | nil => intro L; rfl
  | cons g l ih =>
    intro L
    rw [List.foldl_cons, ih]
    exact fold_len _ _ _ _ _
theorem lb_turn {c : D} {l : List Nat} {m : Nat} (hm : 0 < m) (hm2 : m < 400000) {i g : Nat} (hg : l[i]? = some g) (y4 y5 y6 y7 : SV) :
    ∃ z4 z5 z6 z7, lbIn [.im c, .im (nD m), .ow (tD ((l.take i).foldl (fun L g => oneGen g m L) (Sg.start m))), .im (nD g), y4, y5, y6, y7] 0 = .nx [.im c, .im (nD m), .ow (tD ((l.take (i + 1)).foldl (fun L g => oneGen g m L) (Sg.start m))), .im (nD g), z4, z5, z6, z7] 0 := by
  rw [foldl_take _ _ _ _ _ hg]
  exact lb_inner hm hm2 (by rw [gens_len]; exact (start_exact hm).len) y4 y5 y6 y7
theorem lb_loop {c : D} {l : List Nat} {m : Nat} (hm : 0 < m) (hm2 : m < 400000) : ∃ y3 y4 y5 y6 y7, loopS (gN 3) lbIn (lD l) [.im c, .im (nD m), .ow (tD (Sg.start m)), .un, .un, .un, .un, .un] 0 = .nx [.im c, .im (nD m), .ow (tD (leastBy l m)), y3, y4, y5, y6, y7] 0 := by
  obtain ⟨s', e, y3, y4, y5, y6, y7, es⟩ := loopS_inv0 (tg := gN 3) (f := lbIn) (n := 0)
    (fun i s => ∃ y3 y4 y5 y6 y7, s = [.im c, .im (nD m), .ow (tD ((l.take i).foldl (fun L g => oneGen g m L) (Sg.start m))), y3, y4, y5, y6, y7])
    (ds := lD l) (s := [.im c, .im (nD m), .ow (tD (Sg.start m)), .un, .un, .un, .un, .un]) ⟨_, _, _, _, _, rfl⟩ fun i d s hi hI => by
      obtain ⟨g, hg, ed⟩ := lD_get hi
      obtain ⟨y3, y4, y5, y6, y7, es⟩ := hI
      obtain ⟨z4, z5, z6, z7, hz⟩ := lb_turn (c := c) hm hm2 hg y4 y5 y6 y7
      subst ed es
      exact ⟨[.im c, .im (nD m), .ow (tD ((l.take i).foldl (fun L g => oneGen g m L) (Sg.start m))), .im (nD g), y4, y5, y6, y7], _, rfl, hz, .im (nD g), z4, z5, z6, z7, rfl⟩
  rw [List.length_map, List.take_length] at es
  exact ⟨y3, y4, y5, y6, y7, by rw [e, es]; rfl⟩
theorem least_eq {l : List Nat} {m : Nat} {c : D} (hc : c = .lst (lD l) ∨ c = .tup (lD l)) (hm : 0 < m) (hm2 : m < 400000) : g_least_by [c, nD m] = .ok (.lst (tD (leastBy l m))) := by
  have hs : seqOf c = some (lD l) := by
    rcases hc with rfl | rfl <;> rfl
  obtain ⟨y3, y4, y5, y6, y7, e⟩ := lb_loop (c := c) (l := l) hm hm2
  show endP (f_least_by [.im c, .im (nD m), .un, .un, .un, .un, .un, .un] 0) = _
  have e0 : L2.ixN (tD (List.replicate m none)).length 0 = some 0 := ixN_n (j := 0) (by rw [tD_len, List.length_replicate]; exact hm)
  have e1 : (tD (List.replicate m none)).set 0 (D.int 0) = tD (Sg.start m) := tD_set _ 0 0
  have hbig : (0 + 1 : Nat) < big := big_of (by omega)
  have a1 : sAsgN 2 (nOp lMul (sLst (sCons (sC .non) sNil)) (sVar 1)) [.im c, .im (nD m), .un, .un, .un, .un, .un, .un] 0 = .nx [.im c, .im (nD m), .ow (tD (List.replicate m none)), .un, .un, .un, .un, .un] 0 := by
    simp only [sSeq, sNext, sIfS, sRet, sDrop, sAsg, sPar, sAug, sAsgN, sParN, sParM, sApp, sExt, sSetIx, sFrz, sRaise, sVar, sC, sOp, sUn, sCb, sCons, sConsTw, sNil, sTup, sLst, nLst, nOp, sNw, sTest, sAnd, sOr, sNot, sAndV, sOrV, sNotV, sIf, sChain, sIxOw, sLenOw, sSl, sSlOw, sPart, sNoPart, sCallP, sCallT, liftR, noEx, sThaw, sThawT, sIsi, sFor, nSeq, nRng1, nRng2, nLc, sTick, sYes, bindE, bindS, optE, asB, asI, G.plain, gN, gT, gTs, wipeD, Option.map, Option.bind, List.getElem?_cons_zero, List.getElem?_cons_succ, List.set_cons_zero, List.set_cons_succ, List.getElem?_nil, List.length_cons, List.length_nil]
    simp only [hbig, if_true, lMul_non (show m < 1000000 by omega)]
  have a2 : sSetIx 2 (sC (.int 0)) (sC (.int 0)) [.im c, .im (nD m), .ow (tD (List.replicate m none)), .un, .un, .un, .un, .un] 0 = .nx [.im c, .im (nD m), .ow (tD (Sg.start m)), .un, .un, .un, .un, .un] 0 := by
    simp only [sSeq, sNext, sIfS, sRet, sDrop, sAsg, sPar, sAug, sAsgN, sParN, sParM, sApp, sExt, sSetIx, sFrz, sRaise, sVar, sC, sOp, sUn, sCb, sCons, sConsTw, sNil, sTup, sLst, nLst, nOp, sNw, sTest, sAnd, sOr, sNot, sAndV, sOrV, sNotV, sIf, sChain, sIxOw, sLenOw, sSl, sSlOw, sPart, sNoPart, sCallP, sCallT, liftR, noEx, sThaw, sThawT, sIsi, sFor, nSeq, nRng1, nRng2, nLc, sTick, sYes, bindE, bindS, optE, asB, asI, G.plain, gN, gT, gTs, wipeD, Option.map, Option.bind, List.getElem?_cons_zero, List.getElem?_cons_succ, List.set_cons_zero, List.set_cons_succ, List.getElem?_nil, List.length_cons, List.length_nil, e0, e1]
  have a3 : sFor (nSeq (sVar 0)) (gN 3) lbIn [.im c, .im (nD m), .ow (tD (Sg.start m)), .un, .un, .un, .un, .un] 0 = .nx [.im c, .im (nD m), .ow (tD (leastBy l m)), y3, y4, y5, y6, y7] 0 := by
    rw [sFor_eq (ds := lD l) (n1 := 0) (by simp only [sSeq, sNext, sIfS, sRet, sDrop, sAsg, sPar, sAug, sAsgN, sParN, sParM, sApp, sExt, sSetIx, sFrz, sRaise, sVar, sC, sOp, sUn, sCb, sCons, sConsTw, sNil, sTup, sLst, nLst, nOp, sNw, sTest, sAnd, sOr, sNot, sAndV, sOrV, sNotV, sIf, sChain, sIxOw, sLenOw, sSl, sSlOw, sPart, sNoPart, sCallP, sCallT, liftR, noEx, sThaw, sThawT, sIsi, sFor, nSeq, nRng1, nRng2, nLc, sTick, sYes, bindE, bindS, optE, asB, asI, G.plain, gN, gT, gTs, wipeD, Option.map, Option.bind, List.getElem?_cons_zero, List.getElem?_cons_succ, List.set_cons_zero, List.set_cons_succ, List.getElem?_nil, List.length_cons, List.length_nil, hs]), e]
  have a4 : sFrz 2 (sRet (sVar 2)) [.im c, .im (nD m), .ow (tD (leastBy l m)), y3, y4, y5, y6, y7] 0 = .rt (.lst (tD (leastBy l m))) 0 := rfl
  have e2 : f_least_by [.im c, .im (nD m), .un, .un, .un, .un, .un, .un] 0 = .rt (.lst (tD (leastBy l m))) 0 :=
    (sSeq_nx a1).trans ((sSeq_nx a2).trans ((sSeq_nx a3).trans a4))
  rw [e2]
  rfl
end Gp
end

section
set_option linter.all false
set_option backward.match.sparseCases false
/-! Least sets of generators. -/
namespace Sg
open Classical
theorem Sum.trans {G G' : List Nat} (h : ∀ g ∈ G, Sum G' g) {n : Nat} (s : Sum G n) : Sum G' n := by
  induction s with
  | zero => exact .zero
  | add hg _ ih => exact ih.plus (h _ hg)
/-- one number more is kept only if it is no sum of those before -/
noncomputable def keep (k : List Nat) (x : Nat) : List Nat := if Sum k x then k else k ++ [x]
noncomputable def mgF (k l : List Nat) : List Nat := l.foldl keep k
noncomputable def mg (l : List Nat) : List Nat := mgF [] l
theorem keep_sub {k : List Nat} {x y : Nat} (h : y ∈ k) : y ∈ keep k x := by
  unfold keep
  split
  · exact h
  · exact List.mem_append_left _ h
theorem mgF_sub : ∀ (l k : List Nat) (y : Nat), y ∈ k → y ∈ mgF k l
  | [], _, _, h => h
  | x :: l, k, y, h => mgF_sub l (keep k x) y (keep_sub h)
theorem mgF_of : ∀ (l k : List Nat) (y : Nat), y ∈ mgF k l → y ∈ k ∨ y ∈ l
  | [], _, _, h => .inl h
  | x :: l, k, y, h => by
    rcases mgF_of l (keep k x) y h with h | h
    · unfold keep at h
      split at h
      · exact .inl h
      · rcases List.mem_append.mp h with h | h
        · exact .inl h
        · exact .inr (List.mem_cons.mpr (.inl (List.mem_singleton.mp h)))
    · exact .inr (List.mem_cons_of_mem _ h)
theorem mgF_sum : ∀ (l k : List Nat) (y : Nat), y ∈ l → Sum (mgF k l) y
  | x :: l, k, y, h => by
    rcases List.mem_cons.mp h with rfl | h
    · have h1 : Sum (keep k y) y := by
        unfold keep
        split
        · assumption
        · exact .gen (List.mem_append_right _ List.mem_cons_self)
      exact h1.mono fun g hg => mgF_sub l (keep k y) g hg
    · exact mgF_sum l (keep k x) y h
theorem mg_of {l : List Nat} {y : Nat} (h : y ∈ mg l) : y ∈ l := by
  rcases mgF_of l [] y h with h | h
  · cases h
  · exact h
/-- the same sums -/
theorem mg_iff (l : List Nat) (n : Nat) : Sum (mg l) n ↔ Sum l n :=
  ⟨fun h => h.mono fun g hg => mg_of hg, fun h => h.trans fun g hg => mgF_sum l [] g hg⟩
/-! ### kept as it is -/
/-- no number is a sum of those before it -/
inductive Min : List Nat → Prop
  | nil : Min []
  | snoc {k : List Nat} {x : Nat} : Min k → ¬ Sum k x → Min (k ++ [x])
theorem mgF_min : ∀ (l k : List Nat), Min k → Min (mgF k l)
  | [], _, h => h
  | x :: l, k, h => mgF_min l (keep k x) (by
      unfold keep
      split
      · exact h
      · exact .snoc h (by assumption))
theorem mg_min (l : List Nat) : Min (mg l) := mgF_min l [] .nil
theorem mg_snoc (l : List Nat) (x : Nat) : mg (l ++ [x]) = keep (mg l) x := by
  unfold mg mgF
  rw [List.foldl_append]
  rfl
theorem Min.same {l : List Nat} (h : Min l) : mg l = l := by
  induction h with
  | nil => rfl
  | @snoc k x hk hx ih =>
    rw [mg_snoc, ih]
    unfold keep
    rw [if_neg hx]
theorem mg_mg (l : List Nat) : mg (mg l) = mg l := (mg_min l).same
theorem keep_sublist (k : List Nat) (x : Nat) : (keep k x).Sublist (k ++ [x]) := by
  unfold keep
  split
  · exact List.sublist_append_left _ _
  · exact List.Sublist.refl _
theorem mgF_sublist : ∀ (l k : List Nat), (mgF k l).Sublist (k ++ l)
  | [], k => by rw [List.append_nil]; exact List.Sublist.refl _
  | x :: l, k => by
    have h := mgF_sublist l (keep k x)
    refine h.trans ?_
    have h2 := (keep_sublist k x).append_right l
    rwa [List.append_assoc] at h2
theorem mg_sublist (l : List Nat) : (mg l).Sublist l := mgF_sublist l []
/-! ### sorted, each once -/
def insN (x : Nat) : List Nat → List Nat
  | [] => [x]
  | y :: r => if x < y then x :: y :: r else if x = y then y :: r else y :: insN x r
def us : List Nat → List Nat
  | [] => []
  | x :: r => insN x (us r)
theorem insN_mem (x k : Nat) : ∀ l : List Nat, k ∈ insN x l ↔ k = x ∨ k ∈ l
  | [] => by simp [insN]
  | y :: r => by
    unfold insN
    split
    · simp
    · split
      · subst_vars
        simp
      · have := insN_mem x k r
        simp only [List.mem_cons, this]
        constructor
        · rintro (h | h | h)
          · exact .inr (.inl h)
          · exact .inl h
          · exact .inr (.inr h)
        · rintro (h | h | h)
          · exact .inr (.inl h)
          · exact .inl h
          · exact .inr (.inr h)
theorem us_mem (k : Nat) : ∀ l : List Nat, k ∈ us l ↔ k ∈ l
  | [] => Iff.rfl
  | x :: r => by
    show k ∈ insN x (us r) ↔ _
    rw [insN_mem, us_mem k r, List.mem_cons]
theorem insN_sorted (x : Nat) : ∀ l : List Nat, l.Pairwise (· < ·) → (insN x l).Pairwise (· < ·)
  | [], _ => List.pairwise_singleton _ _
  | y :: r, h => by
    unfold insN
    split
    · rename_i hlt
      refine List.Pairwise.cons (fun k hk => ?_) h
      rcases List.mem_cons.mp hk with rfl | hk
      · exact hlt
      · exact Nat.lt_trans hlt (List.rel_of_pairwise_cons h hk)
    · split
      · exact h
      · refine List.Pairwise.cons (fun k hk => ?_) (insN_sorted x r (List.Pairwise.of_cons h))
        rcases (insN_mem x k r).mp hk with rfl | hk
        · omega
        · exact List.rel_of_pairwise_cons h hk
theorem us_sorted : ∀ l : List Nat, (us l).Pairwise (· < ·)
  | [] => List.Pairwise.nil
  | x :: r => insN_sorted x _ (us_sorted r)
theorem insN_len (x : Nat) : ∀ l : List Nat, (insN x l).length ≤ l.length + 1
  | [] => Nat.le_refl _
  | y :: r => by
    have := insN_len x r
    unfold insN
    split
    · exact Nat.le_refl _
    · split
      · exact Nat.le_succ _
      · rw [List.length_cons, List.length_cons]
        omega
theorem us_len : ∀ l : List Nat, (us l).length ≤ l.length
  | [] => Nat.le_refl _
  | x :: r => by
    have h1 := insN_len x (us r)
    have h2 := us_len r
    rw [List.length_cons]
    show (insN x (us r)).length ≤ _
    omega
theorem insN_head {x : Nat} {l : List Nat} (h : ∀ y ∈ l, x < y) : insN x l = x :: l := by
  cases l with
  | nil => rfl
  | cons y r =>
    unfold insN
    rw [if_pos (h y List.mem_cons_self)]
theorem us_same : ∀ {l : List Nat}, l.Pairwise (· < ·) → us l = l
  | [], _ => rfl
  | x :: r, h => by
    show insN x (us r) = _
    rw [us_same (List.Pairwise.of_cons h)]
    exact insN_head fun y hy => List.rel_of_pairwise_cons h hy
/-- the generators of the sums of some numbers, ascending -/
noncomputable def gens (l : List Nat) : List Nat := mg (us l)
theorem gens_sorted (l : List Nat) : (gens l).Pairwise (· < ·) := (us_sorted l).sublist (mg_sublist _)
theorem gens_of {l : List Nat} {y : Nat} (h : y ∈ gens l) : y ∈ l := (us_mem y l).mp (mg_of h)
theorem gens_gens (l : List Nat) : gens (gens l) = gens l := by
  show mg (us (gens l)) = _
  rw [us_same (gens_sorted l)]
  exact mg_mg _
theorem gens_iff (l : List Nat) (n : Nat) : Sum (gens l) n ↔ Sum l n := (mg_iff (us l) n).trans (Sum.congr fun g => us_mem g l)
theorem gcdL_sum {G : List Nat} {n : Nat} (h : Sum G n) : gcdL G ∣ n := by
  induction h with
  | zero => exact Nat.dvd_zero _
  | add hg _ ih => exact Nat.dvd_add ih (gcdL_dvd _ _ hg)
theorem gcdL_same {G G' : List Nat} (h : ∀ n, Sum G n ↔ Sum G' n) : gcdL G = gcdL G' :=
  Nat.dvd_antisymm (dvd_gcdL _ _ fun g hg => gcdL_sum ((h g).mpr (.gen hg))) (dvd_gcdL _ _ fun g hg => gcdL_sum ((h g).mp (.gen hg)))
theorem gens_gcd (l : List Nat) : gcdL (gens l) = gcdL l := gcdL_same (gens_iff l)
theorem gens_ne {l : List Nat} (h : ∃ x ∈ l, 0 < x) : gens l ≠ [] := by
  obtain ⟨x, hx, hp⟩ := h
  intro e
  have := (gens_iff l x).mpr (.gen hx)
  rw [e] at this
  have := this.nil
  omega
theorem Sum.under {G : List Nat} {n x : Nat} (s : Sum G n) (h : n < x) : Sum (G.filter (· < x)) n := by
  induction s with
  | zero => exact .zero
  | @add g n hg _ ih => exact .add (List.mem_filter.mpr ⟨hg, decide_eq_true (by omega)⟩) (ih (by omega))
theorem Min.not {l : List Nat} (h : Min l) (hs : l.Pairwise (· < ·)) (x : Nat) (hx : x ∈ l) : ¬ Sum (l.filter (· < x)) x := by
  induction h with
  | nil => cases hx
  | @snoc k y hk hy ih =>
    have hs2 := List.pairwise_append.mp hs
    intro hsum
    rcases List.mem_append.mp hx with hx | hx
    · refine ih hs2.1 hx (hsum.mono fun g hg => ?_)
      obtain ⟨h1, h2⟩ := List.mem_filter.mp hg
      rcases List.mem_append.mp h1 with h1 | h1
      · exact List.mem_filter.mpr ⟨h1, h2⟩
      · have h3 := hs2.2.2 x hx y List.mem_cons_self
        have h4 := List.mem_singleton.mp h1
        have h5 := of_decide_eq_true h2
        omega
    · have := List.mem_singleton.mp hx
      subst this
      refine hy (hsum.mono fun g hg => ?_)
      obtain ⟨h1, h2⟩ := List.mem_filter.mp hg
      rcases List.mem_append.mp h1 with h1 | h1
      · exact h1
      · have h4 := List.mem_singleton.mp h1
        have h5 := of_decide_eq_true h2
        omega
theorem Sum.last {G : List Nat} {n : Nat} (s : Sum G n) : n = 0 ∨ ∃ g w, g ∈ G ∧ Sum G w ∧ n = w + g := by
  cases s with
  | zero => exact .inl rfl
  | add hg h => exact .inr ⟨_, _, hg, h, rfl⟩
/-- the same sums: the same generators -/
theorem mem_gens {l : List Nat} (hp : ∀ x ∈ l, 0 < x) (x : Nat) : x ∈ gens l ↔ 0 < x ∧ Sum l x ∧ ∀ a b, 0 < a → 0 < b → Sum l a → Sum l b → a + b ≠ x := by
  constructor
  · intro hx
    refine ⟨hp x (gens_of hx), .gen (gens_of hx), fun a b ha hb sa sb e => ?_⟩
    refine (mg_min (us l)).not (gens_sorted l) x hx ?_
    have h1 := ((gens_iff l a).mpr sa).under (x := x) (by omega)
    have h2 := ((gens_iff l b).mpr sb).under (x := x) (by omega)
    rw [← e]
    rw [← e] at h1 h2
    exact h1.plus h2
  · rintro ⟨h0, hs, hn⟩
    rcases ((gens_iff l x).mpr hs).last with h | ⟨g, w, hg, hw, e⟩
    · omega
    · by_cases h : w = 0
      · rw [e, h, Nat.zero_add]
        exact hg
      · exact absurd e.symm (hn w g (by omega) (hp g (gens_of hg)) ((gens_iff l w).mp hw) (.gen (gens_of hg)))
theorem sorted_ext : ∀ {l l' : List Nat}, l.Pairwise (· < ·) → l'.Pairwise (· < ·) → (∀ k, k ∈ l ↔ k ∈ l') → l = l' := by
  intro l l' h h' hk
  rw [← us_same h, ← us_same h']
  induction l generalizing l' with
  | nil =>
    cases l' with
    | nil => rfl
    | cons y r => exact absurd ((hk y).mpr List.mem_cons_self) (by simp)
  | cons x r ih =>
    cases l' with
    | nil => exact absurd ((hk x).mp List.mem_cons_self) (by simp)
    | cons y r' =>
      have hxy : x = y := by
        have h1 := (hk x).mp List.mem_cons_self
        have h2 := (hk y).mpr List.mem_cons_self
        rcases List.mem_cons.mp h1 with h1 | h1
        · exact h1
        · rcases List.mem_cons.mp h2 with h2 | h2
          · exact h2.symm
          · have := List.rel_of_pairwise_cons h' h1
            have := List.rel_of_pairwise_cons h h2
            omega
      subst hxy
      have e : us r = us r' := ih (List.Pairwise.of_cons h) (List.Pairwise.of_cons h') fun k => by
        have := hk k
        rw [List.mem_cons, List.mem_cons] at this
        constructor
        · intro hk1
          rcases this.mp (.inr hk1) with e | e
          · have := List.rel_of_pairwise_cons h hk1
            omega
          · exact e
        · intro hk1
          rcases this.mpr (.inr hk1) with e | e
          · have := List.rel_of_pairwise_cons h' hk1
            omega
          · exact e
      show insN x (us r) = insN x (us r')
      rw [e]
theorem gens_ext {l l' : List Nat} (hp : ∀ x ∈ l, 0 < x) (hp' : ∀ x ∈ l', 0 < x) (h : ∀ n, Sum l n ↔ Sum l' n) : gens l = gens l' :=
  sorted_ext (gens_sorted l) (gens_sorted l') fun k => by
    rw [mem_gens hp, mem_gens hp']
    constructor
    · rintro ⟨a, b, c⟩
      exact ⟨a, (h k).mp b, fun x y hx hy sx sy => c x y hx hy ((h x).mpr sx) ((h y).mpr sy)⟩
    · rintro ⟨a, b, c⟩
      exact ⟨a, (h k).mpr b, fun x y hx hy sx sy => c x y hx hy ((h x).mp sx) ((h y).mp sy)⟩
/-! ### numbers up to a bound -/
theorem range_filter_ext {p : Nat → Bool} {a b : Nat} (h : a ≤ b) (hp : ∀ n, a ≤ n → p n = false) : (List.range b).filter p = (List.range a).filter p := by
  induction b with
  | zero =>
    have : a = 0 := by omega
    rw [this]
  | succ b ih =>
    by_cases e : a = b + 1
    · rw [e]
    · rw [List.range_succ, List.filter_append, ih (by omega), List.filter_cons_of_neg (by rw [hp b (by omega)]; decide), List.filter_nil, List.append_nil]
/-- the numbers that are no sums -/
noncomputable def noS (l : List Nat) (n : Nat) : Bool := decide (¬ Sum l n)
/-- a bound of the gaps -/
def bnd (l : List Nat) : Nat := (l.headD 0) * l.sum
noncomputable def gapsL (l : List Nat) : List Nat := (List.range (bnd l)).filter (noS l)
theorem bnd_ok {l : List Nat} (hp : ∀ x ∈ l, 0 < x) (hg : gcdL l = 1) {n : Nat} (h : bnd l ≤ n) : Sum l n := by
  cases l with
  | nil => exact absurd hg (by decide)
  | cons m r => exact sum_beyond (hp m List.mem_cons_self) List.mem_cons_self hg h
theorem gapsL_eq {l : List Nat} (hp : ∀ x ∈ l, 0 < x) (hg : gcdL l = 1) {N : Nat} (h : ∀ n, N ≤ n → Sum l n) : gapsL l = (List.range N).filter (noS l) := by
  have h1 : ∀ n, bnd l ≤ n → noS l n = false := fun n hn => decide_eq_false (by rw [Classical.not_not]; exact bnd_ok hp hg hn)
  have h2 : ∀ n, N ≤ n → noS l n = false := fun n hn => decide_eq_false (by rw [Classical.not_not]; exact h n hn)
  unfold gapsL
  rcases Nat.le_total N (bnd l) with e | e
  · exact range_filter_ext e h2
  · exact (range_filter_ext e h1).symm
theorem mem_gapsL {l : List Nat} (hp : ∀ x ∈ l, 0 < x) (hg : gcdL l = 1) (n : Nat) : n ∈ gapsL l ↔ ¬ Sum l n := by
  unfold gapsL
  rw [List.mem_filter, List.mem_range]
  constructor
  · exact fun h => of_decide_eq_true h.2
  · exact fun h => ⟨by
      rcases Nat.lt_or_ge n (bnd l) with e | e
      · exact e
      · exact absurd (bnd_ok hp hg e) h, decide_eq_true h⟩
theorem range_sorted (n : Nat) : (List.range n).Pairwise (· < ·) := List.pairwise_lt_range
theorem gapsL_sorted (l : List Nat) : (gapsL l).Pairwise (· < ·) := (range_sorted _).filter _
theorem gapsL_same {l l' : List Nat} (hp : ∀ x ∈ l, 0 < x) (hg : gcdL l = 1) (hp' : ∀ x ∈ l', 0 < x) (h : ∀ n, Sum l n ↔ Sum l' n) : gapsL l = gapsL l' :=
  sorted_ext (gapsL_sorted l) (gapsL_sorted l') fun k => by
    rw [mem_gapsL hp hg, mem_gapsL hp' ((gcdL_same h).symm.trans hg), h]
end Sg
end

section
set_option linter.all false
set_option backward.match.sparseCases false
set_option maxRecDepth 100000
namespace Gp
open G PySem Sg Classical
/-! ### the words, one by one -/
theorem sOp_eq {g : D → D → Option D} {fa fb : SEg τ} {s : SD} {n n1 n2 : τ} {x y z : D} (h1 : fa s n = .ok (x, n1)) (h2 : fb s n1 = .ok (y, n2)) (h3 : g x y = some z) : sOp g fa fb s n = .ok (z, n2) := by
  unfold sOp
  rw [h1]
  show bindE (fb s n1) (fun y n2 => optE (g x y) n2) = _
  rw [h2]
  show optE (g x y) n2 = _
  rw [h3]
  rfl
theorem sNw_eq {fn : SNg τ} {s : SD} {n n1 : τ} {ds : List D} (h : fn s n = .ok (ds, n1)) : sNw fn s n = .ok (.lst ds, n1) := by
  unfold sNw
  rw [h]
  rfl
theorem sCons_eq {fe : SEg τ} {fr : SAg τ} {s : SD} {n n1 n2 : τ} {x : D} {xs : List AV} (h1 : fe s n = .ok (x, n1)) (h2 : fr s n1 = .ok (xs, n2)) : sCons fe fr s n = .ok (.d x :: xs, n2) := by
  unfold sCons
  rw [h1]
  show bindE (fr s n1) _ = _
  rw [h2]
  rfl
theorem sCallP_eq {g : List D → R D} {fr : SAg τ} {s : SD} {n n1 : τ} {xs : List AV} {ds : List D} {d : D} (h1 : fr s n = .ok (xs, n1)) (h2 : G.plain xs = some ds) (h3 : g ds = .ok d) : sCallP g fr s n = .ok (d, n1) := by
  unfold sCallP
  rw [h1]
  simp only [bindE, h2, liftR, h3]
theorem sTest_eq {fe : SEg τ} {s : SD} {n n1 : τ} {b : Bool} (h : fe s n = .ok (.bl b, n1)) : sTest fe s n = .ok (b, n1) := by
  unfold sTest
  rw [h]
  rfl
/-! ### _law_sieve -/
noncomputable abbrev bS (l : List Nat) (n : Nat) : D := .bl (decide (Sum l n))
theorem lD_mem {l : List Nat} {d : D} (h : d ∈ lD l) : ∃ x ∈ l, d = nD x := by
  obtain ⟨x, hx, e⟩ := List.mem_map.mp h
  exact ⟨x, hx, e.symm⟩
theorem dSub_n {a b : Nat} (h : b ≤ a) : dSub (nD a) (nD b) = some (nD (a - b)) := by
  show some (D.int ((a : Int) - (b : Int))) = _
  rw [← Int.ofNat_sub h]
theorem sum_step {l : List Nat} {n : Nat} (h : 0 < n) : Sum l n ↔ ∃ x ∈ l, x ≤ n ∧ Sum l (n - x) := by
  constructor
  · intro s
    rcases s.last with e | ⟨g, w, hg, hw, e⟩
    · omega
    · exact ⟨g, hg, by omega, by rw [e, Nat.add_sub_cancel]; exact hw⟩
  · rintro ⟨x, hx, hle, s⟩
    have := Sum.add hx s
    rwa [Nat.sub_add_cancel hle] at this
/-- True in a list of truths -/
theorem dIn_bl {l : List Nat} (p : Nat → Bool) : dIn (.bl true) (.lst (l.map fun x => D.bl (p x))) = some (.bl (l.any p)) := by
  have h1 : (l.map fun x => D.bl (p x)).all flatD = true := by
    rw [List.all_map, List.all_eq_true]
    intro x _
    rfl
  have h2 : ((l.map fun x => D.bl (p x)).any fun y => eqF y (.bl true)) = l.any p := by
    rw [List.any_map]
    congr 1
    funext x
    show (p x == true) = p x
    cases p x <;> rfl
  show Option.map D.bl (if flatD (.bl true) = true ∧ (l.map fun x => D.bl (p x)).all flatD = true then some ((l.map fun x => D.bl (p x)).any fun y => eqF y (.bl true)) else _) = _
  rw [if_pos ⟨rfl, h1⟩, h2]
  rfl
theorem compR_lD {tg : SG} {fe : SEg τ} {s : SD} {n : τ} {l : List Nat} (h : Nat → D) (hh : ∀ x ∈ l, ∃ s1, tg (nD x) s = some s1 ∧ fe s1 n = .ok (h x, n)) : compR tg sYes fe s (lD l) n = .ok (l.map h, n) := by
  induction l with
  | nil => rfl
  | cons x l ih =>
    obtain ⟨s1, h1, h2⟩ := hh x List.mem_cons_self
    have ih := ih fun y hy => hh y (List.mem_cons_of_mem _ hy)
    show (match tg (nD x) s with
      | some s1 => bindE (noEx (sYes s1 n)) fun b n1 => match b with
        | true => bindE (noEx (fe s1 n1)) fun y n2 => bindE (compR tg sYes fe s (lD l) n2) fun ys n3 => .ok (y :: ys, n3)
        | false => compR tg sYes fe s (lD l) n1
      | none => .no) = _
    rw [h1]
    show bindE (noEx (fe s1 n)) (fun y n2 => bindE (compR tg sYes fe s (lD l) n2) fun ys n3 => .ok (y :: ys, n3)) = _
    rw [h2]
    show bindE (compR tg sYes fe s (lD l) n) (fun ys n3 => .ok (h x :: ys, n3)) = _
    rw [ih]
    rfl
theorem nLc_eq {it : SIg τ} {tg : SG} {ft : STg τ} {fe : SEg τ} {vs : List Nat} {s : SD} {n n1 : τ} {ds : List D} (h : it s n = .ok (ds, n1)) (hb : ds.length < 10000000) : nLc it tg ft fe vs s n = compR tg ft fe (wipeD s vs) ds n1 := by
  unfold nLc
  rw [h]
  exact if_pos (big_of hb)
theorem sApp_eq {i : Nat} {fe : SEg τ} {s : SD} {n n1 : τ} {ds : List D} {d : D} (h1 : s[i]? = some (.ow ds)) (h : fe s n = .ok (d, n1)) (hb : ds.length < 10000000) : sApp i fe s n = .nx (s.set i (.ow (ds ++ [d]))) n1 := by
  unfold sApp
  rw [h1]
  dsimp only
  rw [h]
  exact if_pos (big_of hb)
abbrev svI : SE := sAndV (sOp dGe (sVar 3) (sVar 4)) (sIxOw 2 (sOp dSub (sVar 3) (sVar 4)))
abbrev svE : SE := sOp dIn (sC (.bl true)) (sNw (nLc (nSeq (sVar 0)) (gN 4) sYes svI [4]))
theorem sv_item {c : D} {l : List Nat} {top i x : Nat} (hx : 0 < x) : svI [.im c, .im (nD top), .ow ((List.range (i + 1)).map (bS l)), .im (nD (i + 1)), .im (nD x)] 0 = .ok (.bl (decide (x ≤ i + 1 ∧ Sum l (i + 1 - x))), 0) := by
  have e1 := dGe_n (i + 1) x
  by_cases h : x ≤ i + 1
  · have e2 := dSub_n h
    have e3 : L2.atI ((List.range (i + 1)).map (bS l)) ((i + 1 - x : Nat) : Int) = some (bS l (i + 1 - x)) := L2.atI_nat (by rw [List.getElem?_map, List.getElem?_range (by omega)]; rfl)
    rw [decide_eq_true h] at e1
    simp only [sSeq, sNext, sIfS, sRet, sDrop, sAsg, sPar, sAug, sAsgN, sParN, sParM, sApp, sExt, sSetIx, sFrz, sRaise, sVar, sC, sOp, sUn, sCb, sCons, sConsTw, sNil, sTup, sLst, nLst, nOp, sNw, sTest, sAnd, sOr, sNot, sAndV, sOrV, sNotV, sIf, sChain, sIxOw, sLenOw, sSl, sSlOw, sPart, sNoPart, sCallP, sCallT, liftR, noEx, sThaw, sThawT, sIsi, sFor, nSeq, nRng1, nRng2, nLc, sTick, sYes, bindE, bindS, optE, asB, asI, G.plain, gN, gT, gTs, wipeD, Option.map, Option.bind, List.getElem?_cons_zero, List.getElem?_cons_succ, List.set_cons_zero, List.set_cons_succ, List.getElem?_nil, List.length_cons, List.length_nil, e1, e2, e3]
    simp only [h, true_and]
  · rw [decide_eq_false h] at e1
    simp only [sSeq, sNext, sIfS, sRet, sDrop, sAsg, sPar, sAug, sAsgN, sParN, sParM, sApp, sExt, sSetIx, sFrz, sRaise, sVar, sC, sOp, sUn, sCb, sCons, sConsTw, sNil, sTup, sLst, nLst, nOp, sNw, sTest, sAnd, sOr, sNot, sAndV, sOrV, sNotV, sIf, sChain, sIxOw, sLenOw, sSl, sSlOw, sPart, sNoPart, sCallP, sCallT, liftR, noEx, sThaw, sThawT, sIsi, sFor, nSeq, nRng1, nRng2, nLc, sTick, sYes, bindE, bindS, optE, asB, asI, G.plain, gN, gT, gTs, wipeD, Option.map, Option.bind, List.getElem?_cons_zero, List.getElem?_cons_succ, List.set_cons_zero, List.set_cons_succ, List.getElem?_nil, List.length_cons, List.length_nil, e1]
    simp only [h, false_and, decide_false]
theorem sv_el {c : D} {l : List Nat} {top i : Nat} {x4 : SV} (hs : seqOf c = some (lD l)) (hp : ∀ x ∈ l, 0 < x) (hb : l.length < 10000000) : svE [.im c, .im (nD top), .ow ((List.range (i + 1)).map (bS l)), .im (nD (i + 1)), x4] 0 = .ok (bS l (i + 1), 0) := by
  have e1 : nLc (nSeq (sVar 0)) (gN 4) sYes svI [4] [.im c, .im (nD top), .ow ((List.range (i + 1)).map (bS l)), .im (nD (i + 1)), x4] 0 = .ok (l.map (fun x => D.bl (decide (x ≤ i + 1 ∧ Sum l (i + 1 - x)))), 0) := by
    rw [nLc_eq (ds := lD l) (n1 := 0) (by simp only [sSeq, sNext, sIfS, sRet, sDrop, sAsg, sPar, sAug, sAsgN, sParN, sParM, sApp, sExt, sSetIx, sFrz, sRaise, sVar, sC, sOp, sUn, sCb, sCons, sConsTw, sNil, sTup, sLst, nLst, nOp, sNw, sTest, sAnd, sOr, sNot, sAndV, sOrV, sNotV, sIf, sChain, sIxOw, sLenOw, sSl, sSlOw, sPart, sNoPart, sCallP, sCallT, liftR, noEx, sThaw, sThawT, sIsi, sFor, nSeq, nRng1, nRng2, nLc, sTick, sYes, bindE, bindS, optE, asB, asI, G.plain, gN, gT, gTs, wipeD, Option.map, Option.bind, List.getElem?_cons_zero, List.getElem?_cons_succ, List.set_cons_zero, List.set_cons_succ, List.getElem?_nil, List.length_cons, List.length_nil, hs]) (by rw [List.length_map]; exact hb)]
    exact compR_lD _ fun x hx => ⟨_, rfl, sv_item (hp x hx)⟩
  have e2 := dIn_bl (l := l) fun x => decide (x ≤ i + 1 ∧ Sum l (i + 1 - x))
  have e3 : (l.any fun x => decide (x ≤ i + 1 ∧ Sum l (i + 1 - x))) = decide (Sum l (i + 1)) := by
    rw [Bool.eq_iff_iff, List.any_eq_true, decide_eq_true_iff, sum_step (by omega)]
    constructor
    · rintro ⟨x, hx, h⟩
      exact ⟨x, hx, of_decide_eq_true h⟩
    · rintro ⟨x, hx, h⟩
      exact ⟨x, hx, decide_eq_true h⟩
  rw [e3] at e2
  exact sOp_eq rfl (sNw_eq e1) e2
theorem sieve_eq {l : List Nat} {c : D} {top : Nat} (hc : c = .lst (lD l) ∨ c = .tup (lD l)) (hp : ∀ x ∈ l, 0 < x) (hb : l.length < 10000000) (ht : top < 900000) : g__law_sieve [c, nD top] = .ok (.lst ((List.range (top + 1)).map (bS l))) := by
  have hs : seqOf c = some (lD l) := by
    rcases hc with rfl | rfl <;> rfl
  obtain ⟨s', e, y3, y4, es⟩ := loopS_inv0 (tg := gN 3) (f := sApp 2 svE) (n := 0)
    (fun i s => ∃ y3 y4, s = [.im c, .im (nD top), .ow ((List.range (i + 1)).map (bS l)), y3, y4])
    (ds := rangeD 1 top) (s := [.im c, .im (nD top), .ow [.bl true], .un, .un]) ⟨.un, .un, by
      have : bS l 0 = .bl true := by
        show D.bl (decide (Sum l 0)) = _
        rw [decide_eq_true Sum.zero]
      show _ = [SV.im c, SV.im (nD top), SV.ow [bS l 0], SV.un, SV.un]
      rw [this]⟩ fun i d s hi hI => by
      obtain ⟨hlt, ed⟩ := rangeD_get hi
      obtain ⟨y3, y4, es⟩ := hI
      have ed : d = nD (i + 1) := by rw [ed]; congr 1; omega
      subst ed es
      refine ⟨[.im c, .im (nD top), .ow ((List.range (i + 1)).map (bS l)), .im (nD (i + 1)), y4], _, rfl, sApp_eq (ds := (List.range (i + 1)).map (bS l)) rfl (sv_el hs hp hb) (by rw [List.length_map, List.length_range]; omega), .im (nD (i + 1)), y4, ?_⟩
      rw [List.range_succ (n := i + 1), List.map_append]
      rfl
  rw [rangeD_len] at es
  have a1 : sAsgN 2 (nLst (sCons (sC (.bl true)) sNil)) [.im c, .im (nD top), .un, .un, .un] 0 = .nx [.im c, .im (nD top), .ow [.bl true], .un, .un] 0 := by
    have hbig : (0 + 1 : Nat) < big := big_of (by omega)
    simp only [sSeq, sNext, sIfS, sRet, sDrop, sAsg, sPar, sAug, sAsgN, sParN, sParM, sApp, sExt, sSetIx, sFrz, sRaise, sVar, sC, sOp, sUn, sCb, sCons, sConsTw, sNil, sTup, sLst, nLst, nOp, sNw, sTest, sAnd, sOr, sNot, sAndV, sOrV, sNotV, sIf, sChain, sIxOw, sLenOw, sSl, sSlOw, sPart, sNoPart, sCallP, sCallT, liftR, noEx, sThaw, sThawT, sIsi, sFor, nSeq, nRng1, nRng2, nLc, sTick, sYes, bindE, bindS, optE, asB, asI, G.plain, gN, gT, gTs, wipeD, Option.map, Option.bind, List.getElem?_cons_zero, List.getElem?_cons_succ, List.set_cons_zero, List.set_cons_succ, List.getElem?_nil, List.length_cons, List.length_nil]
    simp only [hbig, if_true]
  have a2 : sFor (nRng2 (sCons (sC (.int 1)) (sCons (sOp dAdd (sVar 1) (sC (.int 1))) sNil))) (gN 3) (sApp 2 svE) [.im c, .im (nD top), .ow [.bl true], .un, .un] 0 = .nx s' 0 := by
    have e1 : dAdd (nD top) (.int 1) = some (nD (top + 1)) := dAdd_n top 1
    have e2 := lim62_n (n := top + 1) (by omega)
    have e3 : lim62 1 = true := rfl
    have e4 : (((top + 1 : Nat) : Int) - 1).toNat = top := by omega
    rw [sFor_eq (ds := rangeD 1 top) (n1 := 0), e]
    simp only [sSeq, sNext, sIfS, sRet, sDrop, sAsg, sPar, sAug, sAsgN, sParN, sParM, sApp, sExt, sSetIx, sFrz, sRaise, sVar, sC, sOp, sUn, sCb, sCons, sConsTw, sNil, sTup, sLst, nLst, nOp, sNw, sTest, sAnd, sOr, sNot, sAndV, sOrV, sNotV, sIf, sChain, sIxOw, sLenOw, sSl, sSlOw, sPart, sNoPart, sCallP, sCallT, liftR, noEx, sThaw, sThawT, sIsi, sFor, nSeq, nRng1, nRng2, nLc, sTick, sYes, bindE, bindS, optE, asB, asI, G.plain, gN, gT, gTs, wipeD, Option.map, Option.bind, List.getElem?_cons_zero, List.getElem?_cons_succ, List.set_cons_zero, List.set_cons_succ, List.getElem?_nil, List.length_cons, List.length_nil, e1, e2, e3, e4, and_self, if_true]
  show endP (f__law_sieve [.im c, .im (nD top), .un, .un, .un] 0) = _
  have e5 : f__law_sieve [.im c, .im (nD top), .un, .un, .un] 0 = .rt (.lst ((List.range (top + 1)).map (bS l))) 0 :=
    (sSeq_nx a1).trans ((sSeq_nx a2).trans (by rw [es]; rfl))
  rw [e5]
  rfl
end Gp
end

section
set_option linter.all false
set_option backward.match.sparseCases false
set_option maxRecDepth 100000
namespace Gp
open G PySem Sg Classical
/-! ### == over data -/
mutual
/-- how deep lists lie in one another -/
def dep : D → Nat
  | .lst ds => 1 + depA ds
  | .tup ds => 1 + depA ds
  | .scr _ => 1
  | .str _ => 100
  | .dct _ => 100
  | .dtb _ => 100
  | .cli _ _ => 100
  | _ => 0
def depA : List D → Nat
  | [] => 0
  | d :: ds => max (dep d) (depA ds)
end
theorem dpI : ∀ ns : List Int, PyData.depthAll (ns.map PyData.int) = 0
  | [] => by simp [PyData.depthAll]
  | n :: ns => by simp [PyData.depthAll, PyData.depth, dpI ns]
theorem clI : ∀ ns : List Int, PyData.canLayAll0 (ns.map PyData.int) = true
  | [] => by simp [PyData.canLayAll0]
  | n :: ns => by simp [PyData.canLayAll0, PyData.canLay0, clI ns]
mutual
theorem dep_py : ∀ d : D, dep d < 100 → d.py.depth = dep d ∧ d.py.canLay0 = true
  | .non, _ => by simp [D.py, PyData.depth, PyData.canLay0, dep]
  | .bl b, _ => by simp [D.py, PyData.depth, PyData.canLay0, dep]
  | .int i, _ => by simp [D.py, PyData.depth, PyData.canLay0, dep]
  | .str x, h => absurd (show 100 < 100 from h) (by decide)
  | .dct x, h => absurd (show 100 < 100 from h) (by decide)
  | .dtb x, h => absurd (show 100 < 100 from h) (by decide)
  | .cli x y, h => absurd (show 100 < 100 from h) (by decide)
  | .lst ds, h => by
    have h1 : 1 + depA ds < 100 := h
    have := dep_pyA ds (by omega)
    simp [D.py, PyData.depth, PyData.canLay0, dep, this.1, this.2]
    omega
  | .tup ds, h => by
    have h1 : 1 + depA ds < 100 := h
    have := dep_pyA ds (by omega)
    simp [D.py, PyData.depth, PyData.canLay0, dep, this.1, this.2]
    omega
  | .scr ns, _ => by
    simp [D.py, PyData.depth, PyData.canLay0, dep, dpI, clI]
theorem dep_pyA : ∀ ds : List D, depA ds < 100 → PyData.depthAll (pyA ds) = depA ds ∧ PyData.canLayAll0 (pyA ds) = true
  | [], _ => by simp [pyA, PyData.depthAll, PyData.canLayAll0, depA]
  | d :: ds, h => by
    have h0 : max (dep d) (depA ds) < 100 := h
    have h1 := dep_py d (by omega)
    have h2 := dep_pyA ds (by omega)
    simp [pyA, PyData.depthAll, PyData.canLayAll0, depA, h1.1, h1.2, h2.1, h2.2]
end
theorem okD_of {d : D} (h : dep d ≤ 64) : okD d = true := by
  unfold okD SeqAt.shaped
  rw [(dep_py d (by omega)).1, (dep_py d (by omega)).2, decide_eq_true h]
  rfl
theorem depA_le {ds : List D} {k : Nat} (h : ∀ d ∈ ds, dep d ≤ k) : depA ds ≤ k := by
  induction ds with
  | nil => exact Nat.zero_le _
  | cons d ds ih =>
    show max (dep d) (depA ds) ≤ k
    exact Nat.max_le.mpr ⟨h d List.mem_cons_self, ih fun e he => h e (List.mem_cons_of_mem _ he)⟩
theorem depA_lD (l : List Nat) : depA (lD l) ≤ 0 := depA_le fun d hd => by
  obtain ⟨x, _, rfl⟩ := lD_mem hd
  exact Nat.le_refl 0
theorem eqD_n (a b : Nat) : eqD (nD a) (nD b) = decide (a = b) := by
  show PyData.eqv (.int a) (.int b) = _
  rw [Bool.eq_iff_iff, decide_eq_true_iff]
  simp [PyData.eqv]
  omega
theorem dEq_n (a b : Nat) : dEq (nD a) (nD b) = some (.bl (decide (a = b))) := by
  unfold dEq
  rw [if_pos ⟨okD_of (Nat.zero_le _), okD_of (Nat.zero_le _)⟩, eqD_n]
theorem dNe_n (a b : Nat) : dNe (nD a) (nD b) = some (.bl (decide (a ≠ b))) := by
  unfold dNe
  rw [if_pos ⟨okD_of (Nat.zero_le _), okD_of (Nat.zero_le _)⟩, eqD_n]
  congr 2
  by_cases h : a = b
  · simp [h]
  · simp [h]
theorem eqvAll_n : ∀ l l' : List Nat, PyData.eqvAll (pyA (lD l)) (pyA (lD l')) = decide (l = l')
  | [], [] => by simp [pyA, PyData.eqvAll]
  | [], _ :: _ => by simp [pyA, PyData.eqvAll]
  | _ :: _, [] => by simp [pyA, PyData.eqvAll]
  | a :: l, b :: l' => by
    show (PyData.eqv (nD a).py (nD b).py && PyData.eqvAll (pyA (lD l)) (pyA (lD l'))) = _
    rw [eqvAll_n l l', show PyData.eqv (nD a).py (nD b).py = decide (a = b) from eqD_n a b, Bool.eq_iff_iff]
    simp
theorem eqD_lst (l l' : List Nat) : eqD (.lst (lD l)) (.lst (lD l')) = decide (l = l') := eqvAll_n l l'
theorem eqD_tup (l l' : List Nat) : eqD (.tup (lD l)) (.tup (lD l')) = decide (l = l') := eqvAll_n l l'
theorem ok_lst (l : List Nat) : okD (.lst (lD l)) = true := okD_of (by
  show 1 + depA (lD l) ≤ 64
  have := depA_lD l
  omega)
theorem ok_tup (l : List Nat) : okD (.tup (lD l)) = true := okD_of (by
  show 1 + depA (lD l) ≤ 64
  have := depA_lD l
  omega)
theorem dEq_lst (l l' : List Nat) : dEq (.lst (lD l)) (.lst (lD l')) = some (.bl (decide (l = l'))) := by
  unfold dEq
  rw [if_pos ⟨ok_lst l, ok_lst l'⟩, eqD_lst]
theorem dNe_lst (l l' : List Nat) : dNe (.lst (lD l)) (.lst (lD l')) = some (.bl (decide (l ≠ l'))) := by
  unfold dNe
  rw [if_pos ⟨ok_lst l, ok_lst l'⟩, eqD_lst]
  congr 2
  by_cases h : l = l'
  · simp [h]
  · simp [h]
theorem dEq_tup (l l' : List Nat) : dEq (.tup (lD l)) (.tup (lD l')) = some (.bl (decide (l = l'))) := by
  unfold dEq
  rw [if_pos ⟨ok_tup l, ok_tup l'⟩, eqD_tup]
theorem dNe_tup (l l' : List Nat) : dNe (.tup (lD l)) (.tup (lD l')) = some (.bl (decide (l ≠ l'))) := by
  unfold dNe
  rw [if_pos ⟨ok_tup l, ok_tup l'⟩, eqD_tup]
  congr 2
  by_cases h : l = l'
  · simp [h]
  · simp [h]
/-! ### min, max, sum, len -/
theorem intsD_lD : ∀ l : List Nat, intsD (lD l) = some (l.map Int.ofNat)
  | [] => rfl
  | x :: l => by
    show (intsD (lD l)).map _ = _
    rw [intsD_lD l]
    rfl
theorem bMin_of {l : List Nat} {c : D} {m : Nat} (hc : c = .lst (lD l) ∨ c = .tup (lD l)) (hm : m ∈ l) (h : ∀ y ∈ l, m ≤ y) : bMin [c] = some (nD m) := by
  have e1 : intArg2 [c] = some (l.map Int.ofNat) := by
    rcases hc with rfl | rfl <;> exact intsD_lD l
  have e2 : bMin [c] = (intArg2 [c]).bind fun ns => if ns.isEmpty then none else some (.int (minI ns)) := by
    rcases hc with rfl | rfl <;> rfl
  rw [e2, e1]
  have hne : l.map Int.ofNat ≠ [] := fun z => by
    rw [List.map_eq_nil_iff.mp z] at hm
    cases hm
  obtain ⟨h1, h2⟩ := minI_spec _ hne
  show (if (l.map Int.ofNat).isEmpty then none else some (D.int (minI (l.map Int.ofNat)))) = _
  rw [if_neg (by rw [List.isEmpty_iff]; exact hne)]
  obtain ⟨x, hx, ex⟩ := List.mem_map.mp h1
  have h3 := h2 _ (List.mem_map.mpr ⟨m, hm, rfl⟩)
  have h4 := h x hx
  rw [← ex] at h3 ⊢
  rw [ofN, ofN] at h3
  have : x = m := by omega
  rw [this]
  rfl
theorem bMax_of {l : List Nat} {c : D} {m : Nat} (hc : c = .lst (lD l) ∨ c = .tup (lD l)) (hm : m ∈ l) (h : ∀ y ∈ l, y ≤ m) : bMax [c] = some (nD m) := by
  have e1 : intArg2 [c] = some (l.map Int.ofNat) := by
    rcases hc with rfl | rfl <;> exact intsD_lD l
  have e2 : bMax [c] = (intArg2 [c]).bind fun ns => if ns.isEmpty then none else some (.int (maxI ns)) := by
    rcases hc with rfl | rfl <;> rfl
  rw [e2, e1]
  have hne : l.map Int.ofNat ≠ [] := fun z => by
    rw [List.map_eq_nil_iff.mp z] at hm
    cases hm
  obtain ⟨h1, h2⟩ := maxI_spec _ hne
  show (if (l.map Int.ofNat).isEmpty then none else some (D.int (maxI (l.map Int.ofNat)))) = _
  rw [if_neg (by rw [List.isEmpty_iff]; exact hne)]
  obtain ⟨x, hx, ex⟩ := List.mem_map.mp h1
  have h3 := h2 _ (List.mem_map.mpr ⟨m, hm, rfl⟩)
  have h4 := h x hx
  rw [← ex] at h3 ⊢
  rw [ofN, ofN] at h3
  have : x = m := by omega
  rw [this]
  rfl
theorem sum_ofN : ∀ l : List Nat, (l.map Int.ofNat).sum = ((l.sum : Nat) : Int)
  | [] => rfl
  | x :: l => by
    rw [List.map_cons, List.sum_cons, List.sum_cons, sum_ofN l, ofN]
    omega
theorem bSum_of {l : List Nat} {c : D} (hc : c = .lst (lD l) ∨ c = .tup (lD l)) : bSum [c] = some (nD l.sum) := by
  have e1 : intArg2 [c] = some (l.map Int.ofNat) := by
    rcases hc with rfl | rfl <;> exact intsD_lD l
  unfold bSum
  rw [e1]
  show some (D.int ((l.map Int.ofNat).sum)) = _
  rw [sum_ofN]
theorem bLen_of {l : List Nat} {c : D} (hc : c = .lst (lD l) ∨ c = .tup (lD l)) : bLen [c] = some (nD l.length) := by
  rcases hc with rfl | rfl
  · show some (D.int ((lD l).length : Nat)) = _
    rw [List.length_map]
  · show some (D.int ((lD l).length : Nat)) = _
    rw [List.length_map]
theorem rangeD_lD (n : Nat) : rangeD 0 n = lD (List.range n) := by
  unfold rangeD
  apply List.map_congr_left
  intro i _
  rw [Int.zero_add]
end Gp
end

section
set_option linter.all false
set_option backward.match.sparseCases false
set_option maxRecDepth 100000
namespace Gp
open G PySem Sg Classical
/-! ### loops that may end early -/
theorem loopS_find {tg : SG} {f : SSg τ} {n : τ} (Inv : Nat → SD → Prop) (Pr : D → Prop) : ∀ (ds : List D) (k : Nat) (s : SD), Inv k s → (∀ (i : Nat) (d : D) (s : SD), ds[i]? = some d → Inv (k + i) s → ∃ s1, tg d s = some s1 ∧ ((∃ s2, f s1 n = .nx s2 n ∧ Inv (k + i + 1) s2) ∨ ∃ r, f s1 n = .rt r n ∧ Pr r)) → (∃ s', loopS tg f ds s n = .nx s' n ∧ Inv (k + ds.length) s') ∨ ∃ r, loopS tg f ds s n = .rt r n ∧ Pr r
  | [], k, s, h, _ => .inl ⟨s, rfl, h⟩
  | d :: ds, k, s, h, hs => by
    obtain ⟨s1, h1, h2⟩ := hs 0 d s rfl h
    rcases h2 with ⟨s2, h2, h3⟩ | ⟨r, h2, h3⟩
    · have e0 : loopS tg f (d :: ds) s n = loopS tg f ds s2 n := loopS_nx h1 h2
      have ih := loopS_find (tg := tg) (f := f) (n := n) Inv Pr ds (k + 1) s2 h3 fun i e s hi hI => by
        have := hs (i + 1) e s hi (by rw [show k + (i + 1) = k + 1 + i by omega]; exact hI)
        rw [show k + 1 + i = k + (i + 1) by omega]
        exact this
      rw [e0, List.length_cons, show k + (ds.length + 1) = k + 1 + ds.length by omega]
      exact ih
    · exact .inr ⟨r, loopS_rt h1 h2, h3⟩
theorem loopS_find0 {tg : SG} {f : SSg τ} {n : τ} (Inv : Nat → SD → Prop) (Pr : D → Prop) {ds : List D} {s : SD} (h0 : Inv 0 s) (hs : ∀ (i : Nat) (d : D) (s : SD), ds[i]? = some d → Inv i s → ∃ s1, tg d s = some s1 ∧ ((∃ s2, f s1 n = .nx s2 n ∧ Inv (i + 1) s2) ∨ ∃ r, f s1 n = .rt r n ∧ Pr r)) : (∃ s', loopS tg f ds s n = .nx s' n ∧ Inv ds.length s') ∨ ∃ r, loopS tg f ds s n = .rt r n ∧ Pr r := by
  have := loopS_find (tg := tg) (f := f) (n := n) Inv Pr ds 0 s h0 fun i d s hi hI => by
    rw [Nat.zero_add] at hI ⊢
    exact hs i d s hi hI
  rwa [Nat.zero_add] at this
theorem compR_ifL {tg : SG} {ft : STg τ} {fe : SEg τ} {s : SD} {n : τ} {l : List Nat} (p : Nat → Bool) (h : Nat → D) (hh : ∀ x ∈ l, ∃ s1, tg (nD x) s = some s1 ∧ ft s1 n = .ok (p x, n) ∧ (p x = true → fe s1 n = .ok (h x, n))) : compR tg ft fe s (lD l) n = .ok ((l.filter p).map h, n) := by
  induction l with
  | nil => rfl
  | cons x l ih =>
    obtain ⟨s1, h1, h2, h3⟩ := hh x List.mem_cons_self
    have ih := ih fun y hy => hh y (List.mem_cons_of_mem _ hy)
    show (match tg (nD x) s with
      | some s1 => bindE (noEx (ft s1 n)) fun b n1 => match b with
        | true => bindE (noEx (fe s1 n1)) fun y n2 => bindE (compR tg ft fe s (lD l) n2) fun ys n3 => .ok (y :: ys, n3)
        | false => compR tg ft fe s (lD l) n1
      | none => .no) = _
    rw [h1]
    dsimp only
    rw [h2]
    cases hp : p x with
    | true =>
      rw [List.filter_cons_of_pos hp]
      show bindE (noEx (fe s1 n)) (fun y n2 => bindE (compR tg ft fe s (lD l) n2) fun ys n3 => .ok (y :: ys, n3)) = _
      rw [h3 hp]
      show bindE (compR tg ft fe s (lD l) n) (fun ys n3 => .ok (h x :: ys, n3)) = _
      rw [ih]
      rfl
    | false =>
      rw [List.filter_cons_of_neg (by rw [hp]; decide)]
      exact ih
theorem sWhile_rt {ft : ST} {f : SS} {k : Nat} {s : SD} {n n1 n2 : Nat} {d : D} (h1 : ft s n = .ok (true, n1)) (h2 : f s n1 = .rt d n2) : sWhile ft f (k + 1) s n = .rt d n2 := by
  exact sWhile_rtG h1 h2
/-! ### _law_holes -/
/-- how many sums stand directly before n -/
noncomputable def runB (l : List Nat) : Nat → Nat
  | 0 => 0
  | n + 1 => if Sum l n then runB l n + 1 else 0
theorem runB_all (l : List Nat) : ∀ n j : Nat, n - runB l n ≤ j → j < n → Sum l j
  | 0, j, _, h => by omega
  | n + 1, j, h1, h2 => by
    unfold runB at h1
    split at h1
    · by_cases e : j = n
      · rw [e]
        assumption
      · exact runB_all l n j (by omega) (by omega)
    · omega
theorem runB_le (l : List Nat) : ∀ n : Nat, runB l n ≤ n
  | 0 => Nat.le_refl _
  | n + 1 => by
    have := runB_le l n
    unfold runB
    split <;> omega
theorem runB_ge {l : List Nat} {N : Nat} (h : ∀ n, N ≤ n → Sum l n) : ∀ k : Nat, k ≤ runB l (N + k)
  | 0 => Nat.zero_le _
  | k + 1 => by
    show _ ≤ (if Sum l (N + k) then runB l (N + k) + 1 else 0)
    rw [if_pos (h _ (by omega))]
    have := runB_ge h k
    omega
theorem sum_run {l : List Nat} {m a : Nat} (hm : m ∈ l) (hm0 : 0 < m) (h : ∀ j, a ≤ j → j < a + m → Sum l j) : ∀ n, a ≤ n → Sum l n := by
  intro n
  induction n using Nat.strongRecOn with
  | _ n ih =>
    intro hn
    by_cases e : n < a + m
    · exact h n hn e
    · have := Sum.add hm (ih (n - m) (by omega) (by omega))
      rwa [Nat.sub_add_cancel (by omega)] at this
abbrev hoT : ST := sTest (sOp dEq (sVar 3) (sCb bMin (sCons (sVar 0) sNil)))
abbrev hoR : SE := sNw (nLc (nRng1 (sCons (sVar 4) sNil)) (gN 5) (sNot (sTest (sOp dIx (sVar 2) (sVar 5)))) (sVar 5) [5])
abbrev hoB : SS := sSeq (sAsg 3 (sIf (sTest (sOp dIx (sVar 2) (sVar 4))) (sOp dAdd (sVar 3) (sC (.int 1))) (sC (.int 0))))
  (sIfS hoT (sRet hoR) sNext)
theorem bS_at {l : List Nat} {top i : Nat} (h : i ≤ top) : dIx (.lst ((List.range (top + 1)).map (bS l))) (nD i) = some (bS l i) := by
  show L2.atI ((List.range (top + 1)).map (bS l)) (i : Int) = _
  exact L2.atI_nat (by rw [List.getElem?_map, List.getElem?_range (by omega)]; rfl)
theorem noS_not (l : List Nat) (n : Nat) : (!decide (Sum l n)) = noS l n := by
  unfold noS
  by_cases h : Sum l n
  · simp [h]
  · simp [h]
theorem ho_ret {c : D} {l : List Nat} {top i : Nat} {x3 x5 : SV} (hi : i ≤ top) (ht : top < 900000) : hoR [.im c, .im (nD top), .im (.lst ((List.range (top + 1)).map (bS l))), x3, .im (nD i), x5] 0 = .ok (.lst (lD ((List.range i).filter (noS l))), 0) := by
  have el := lim62_n (n := i) (by omega)
  refine sNw_eq ?_
  rw [nLc_eq (ds := lD (List.range i)) (n1 := 0) (by simp only [sSeq, sNext, sIfS, sRet, sDrop, sAsg, sPar, sAug, sAsgN, sParN, sParM, sApp, sExt, sSetIx, sFrz, sRaise, sVar, sC, sOp, sUn, sCb, sCons, sConsTw, sNil, sTup, sLst, nLst, nOp, sNw, sTest, sAnd, sOr, sNot, sAndV, sOrV, sNotV, sIf, sChain, sIxOw, sLenOw, sSl, sSlOw, sPart, sNoPart, sCallP, sCallT, liftR, noEx, sThaw, sThawT, sIsi, sFor, nSeq, nRng1, nRng2, nLc, sTick, sYes, bindE, bindS, optE, asB, asI, G.plain, gN, gT, gTs, wipeD, Option.map, Option.bind, List.getElem?_cons_zero, List.getElem?_cons_succ, List.set_cons_zero, List.set_cons_succ, List.getElem?_nil, List.length_cons, List.length_nil, el, if_true, Int.toNat_natCast, rangeD_lD]) (by rw [List.length_map, List.length_range]; omega)]
  exact compR_ifL (noS l) nD fun x hx => by
    have hx := List.mem_range.mp hx
    have e1 := bS_at (l := l) (top := top) (i := x) (by omega)
    refine ⟨_, rfl, ?_, fun _ => rfl⟩
    simp only [wipeD, sSeq, sNext, sIfS, sRet, sDrop, sAsg, sPar, sAug, sAsgN, sParN, sParM, sApp, sExt, sSetIx, sFrz, sRaise, sVar, sC, sOp, sUn, sCb, sCons, sConsTw, sNil, sTup, sLst, nLst, nOp, sNw, sTest, sAnd, sOr, sNot, sAndV, sOrV, sNotV, sIf, sChain, sIxOw, sLenOw, sSl, sSlOw, sPart, sNoPart, sCallP, sCallT, liftR, noEx, sThaw, sThawT, sIsi, sFor, nSeq, nRng1, nRng2, nLc, sTick, sYes, bindE, bindS, optE, asB, asI, G.plain, gN, gT, gTs, wipeD, Option.map, Option.bind, List.getElem?_cons_zero, List.getElem?_cons_succ, List.set_cons_zero, List.set_cons_succ, List.getElem?_nil, List.length_cons, List.length_nil, e1, noS_not]
theorem ho_body {c : D} {l : List Nat} {m top i : Nat} {x5 x4 : SV} (hc : c = .lst (lD l) ∨ c = .tup (lD l)) (hm : m ∈ l) (hml : ∀ y ∈ l, m ≤ y) (hi : i ≤ top) (ht : top < 900000) :
    hoB [.im c, .im (nD top), .im (.lst ((List.range (top + 1)).map (bS l))), .im (nD (runB l i)), .im (nD i), x5] 0 = if runB l (i + 1) = m then .rt (.lst (lD ((List.range i).filter (noS l)))) 0 else .nx [.im c, .im (nD top), .im (.lst ((List.range (top + 1)).map (bS l))), .im (nD (runB l (i + 1))), .im (nD i), x5] 0 := by
  have e1 := bS_at (l := l) (top := top) (i := i) hi
  have e2 := dAdd_n (runB l i) 1
  have a1 : sAsg 3 (sIf (sTest (sOp dIx (sVar 2) (sVar 4))) (sOp dAdd (sVar 3) (sC (.int 1))) (sC (.int 0))) [.im c, .im (nD top), .im (.lst ((List.range (top + 1)).map (bS l))), .im (nD (runB l i)), .im (nD i), x5] 0 = .nx [.im c, .im (nD top), .im (.lst ((List.range (top + 1)).map (bS l))), .im (nD (runB l (i + 1))), .im (nD i), x5] 0 := by
    rw [show runB l (i + 1) = if Sum l i then runB l i + 1 else 0 from rfl]
    by_cases h : Sum l i
    · rw [if_pos h]
      have e1 : dIx (.lst ((List.range (top + 1)).map (bS l))) (nD i) = some (.bl true) := by rw [e1, bS, decide_eq_true h]
      simp only [sSeq, sNext, sIfS, sRet, sDrop, sAsg, sPar, sAug, sAsgN, sParN, sParM, sApp, sExt, sSetIx, sFrz, sRaise, sVar, sC, sOp, sUn, sCb, sCons, sConsTw, sNil, sTup, sLst, nLst, nOp, sNw, sTest, sAnd, sOr, sNot, sAndV, sOrV, sNotV, sIf, sChain, sIxOw, sLenOw, sSl, sSlOw, sPart, sNoPart, sCallP, sCallT, liftR, noEx, sThaw, sThawT, sIsi, sFor, nSeq, nRng1, nRng2, nLc, sTick, sYes, bindE, bindS, optE, asB, asI, G.plain, gN, gT, gTs, wipeD, Option.map, Option.bind, List.getElem?_cons_zero, List.getElem?_cons_succ, List.set_cons_zero, List.set_cons_succ, List.getElem?_nil, List.length_cons, List.length_nil, e1, show dAdd (nD (runB l i)) (.int 1) = _ from e2]
    · rw [if_neg h]
      have e1 : dIx (.lst ((List.range (top + 1)).map (bS l))) (nD i) = some (.bl false) := by rw [e1, bS, decide_eq_false h]
      simp only [sSeq, sNext, sIfS, sRet, sDrop, sAsg, sPar, sAug, sAsgN, sParN, sParM, sApp, sExt, sSetIx, sFrz, sRaise, sVar, sC, sOp, sUn, sCb, sCons, sConsTw, sNil, sTup, sLst, nLst, nOp, sNw, sTest, sAnd, sOr, sNot, sAndV, sOrV, sNotV, sIf, sChain, sIxOw, sLenOw, sSl, sSlOw, sPart, sNoPart, sCallP, sCallT, liftR, noEx, sThaw, sThawT, sIsi, sFor, nSeq, nRng1, nRng2, nLc, sTick, sYes, bindE, bindS, optE, asB, asI, G.plain, gN, gT, gTs, wipeD, Option.map, Option.bind, List.getElem?_cons_zero, List.getElem?_cons_succ, List.set_cons_zero, List.set_cons_succ, List.getElem?_nil, List.length_cons, List.length_nil, e1]
      rfl
  refine (sSeq_nx a1).trans ?_
  have t1 : hoT [.im c, .im (nD top), .im (.lst ((List.range (top + 1)).map (bS l))), .im (nD (runB l (i + 1))), .im (nD i), x5] 0 = .ok (decide (runB l (i + 1) = m), 0) := by
    have e3 := bMin_of hc hm hml
    have e4 := dEq_n (runB l (i + 1)) m
    simp only [sSeq, sNext, sIfS, sRet, sDrop, sAsg, sPar, sAug, sAsgN, sParN, sParM, sApp, sExt, sSetIx, sFrz, sRaise, sVar, sC, sOp, sUn, sCb, sCons, sConsTw, sNil, sTup, sLst, nLst, nOp, sNw, sTest, sAnd, sOr, sNot, sAndV, sOrV, sNotV, sIf, sChain, sIxOw, sLenOw, sSl, sSlOw, sPart, sNoPart, sCallP, sCallT, liftR, noEx, sThaw, sThawT, sIsi, sFor, nSeq, nRng1, nRng2, nLc, sTick, sYes, bindE, bindS, optE, asB, asI, G.plain, gN, gT, gTs, wipeD, Option.map, Option.bind, List.getElem?_cons_zero, List.getElem?_cons_succ, List.set_cons_zero, List.set_cons_succ, List.getElem?_nil, List.length_cons, List.length_nil, e3, e4]
  by_cases h : runB l (i + 1) = m
  · rw [if_pos h]
    rw [decide_eq_true h] at t1
    rw [sIfS_t t1]
    exact sRet_eq (ho_ret hi ht)
  · rw [if_neg h]
    rw [decide_eq_false h] at t1
    rw [sIfS_f t1]
    rfl
abbrev hoF : SS := sFor (nRng1 (sCons (sOp dAdd (sVar 1) (sC (.int 1))) sNil)) (gN 4) hoB
theorem ho_for {c : D} {l : List Nat} {m top : Nat} {x4 x5 : SV} (hc : c = .lst (lD l) ∨ c = .tup (lD l)) (hp : ∀ x ∈ l, 0 < x) (hg : gcdL l = 1) (hm : m ∈ l) (hml : ∀ y ∈ l, m ≤ y) (ht : top < 900000) :
    hoF [.im c, .im (nD top), .im (.lst ((List.range (top + 1)).map (bS l))), .im (nD 0), x4, x5] 0 = .rt (.lst (lD (gapsL l))) 0 ∨ (top < bnd l + m ∧ ∃ y3 y4 y5, hoF [.im c, .im (nD top), .im (.lst ((List.range (top + 1)).map (bS l))), .im (nD 0), x4, x5] 0 = .nx [.im c, .im (nD top), .im (.lst ((List.range (top + 1)).map (bS l))), y3, y4, y5] 0) := by
  have hm0 := hp m hm
  have e0 : hoF [.im c, .im (nD top), .im (.lst ((List.range (top + 1)).map (bS l))), .im (nD 0), x4, x5] 0 = loopS (gN 4) hoB (rangeD 0 (top + 1)) [.im c, .im (nD top), .im (.lst ((List.range (top + 1)).map (bS l))), .im (nD 0), x4, x5] 0 := by
    have e1 := dAdd_n top 1
    have e2 := lim62_n (n := top + 1) (by omega)
    refine sFor_eq ?_
    simp only [sSeq, sNext, sIfS, sRet, sDrop, sAsg, sPar, sAug, sAsgN, sParN, sParM, sApp, sExt, sSetIx, sFrz, sRaise, sVar, sC, sOp, sUn, sCb, sCons, sConsTw, sNil, sTup, sLst, nLst, nOp, sNw, sTest, sAnd, sOr, sNot, sAndV, sOrV, sNotV, sIf, sChain, sIxOw, sLenOw, sSl, sSlOw, sPart, sNoPart, sCallP, sCallT, liftR, noEx, sThaw, sThawT, sIsi, sFor, nSeq, nRng1, nRng2, nLc, sTick, sYes, bindE, bindS, optE, asB, asI, G.plain, gN, gT, gTs, wipeD, Option.map, Option.bind, List.getElem?_cons_zero, List.getElem?_cons_succ, List.set_cons_zero, List.set_cons_succ, List.getElem?_nil, List.length_cons, List.length_nil, show dAdd (nD top) (.int 1) = _ from e1, e2, if_true, Int.toNat_natCast]
  have key := loopS_find0 (tg := gN 4) (f := hoB) (n := 0)
    (fun i s => runB l i < m ∧ ∃ y4 y5, s = [.im c, .im (nD top), .im (.lst ((List.range (top + 1)).map (bS l))), .im (nD (runB l i)), y4, y5])
    (fun r => r = .lst (lD (gapsL l))) (ds := rangeD 0 (top + 1)) (s := [.im c, .im (nD top), .im (.lst ((List.range (top + 1)).map (bS l))), .im (nD 0), x4, x5]) ⟨hm0, x4, x5, rfl⟩ fun i d s hi hI => by
      obtain ⟨hlt, ed⟩ := rangeD_nat hi
      obtain ⟨hr, y4, y5, es⟩ := hI
      subst ed es
      have hb := ho_body (c := c) (x5 := y5) (x4 := y4) hc hm hml (show i ≤ top by omega) ht
      refine ⟨[.im c, .im (nD top), .im (.lst ((List.range (top + 1)).map (bS l))), .im (nD (runB l i)), .im (nD i), y5], rfl, ?_⟩
      by_cases h : runB l (i + 1) = m
      · rw [if_pos h] at hb
        refine .inr ⟨_, hb, ?_⟩
        have h1 := runB_all l (i + 1)
        have h2 := runB_le l (i + 1)
        rw [h] at h1 h2
        have h3 := sum_run (a := i + 1 - m) hm hm0 fun j hj1 hj2 => h1 j hj1 (by omega)
        rw [gapsL_eq hp hg (N := i) fun n hn => h3 n (by omega)]
      · rw [if_neg h] at hb
        refine .inl ⟨_, hb, ?_, .im (nD i), y5, rfl⟩
        have : runB l (i + 1) ≤ runB l i + 1 := by
          show (if Sum l i then runB l i + 1 else 0) ≤ _
          split <;> omega
        omega
  rw [e0]
  rcases key with ⟨s', e, hr, y4, y5, es⟩ | ⟨r, e, er⟩
  · refine .inr ⟨?_, .im (nD (runB l (top + 1))), y4, y5, ?_⟩
    · rw [rangeD_len] at hr
      rcases Nat.lt_or_ge top (bnd l + m) with h | h
      · exact h
      · have := runB_ge (l := l) (N := bnd l) (fun n hn => bnd_ok hp hg hn) (top + 1 - bnd l)
        rw [show bnd l + (top + 1 - bnd l) = top + 1 by omega] at this
        omega
    · rw [e, es, rangeD_len]
  · exact .inl (by rw [e, er])
abbrev hoW : SS := sSeq (sAsg 2 (sCallP g__law_sieve (sCons (sVar 0) (sCons (sVar 1) sNil))))
  (sSeq (sAsg 3 (sC (.int 0))) (sSeq hoF (sAsg 1 (sOp dMul (sC (.int 2)) (sVar 1)))))
theorem ho_while {c : D} {l : List Nat} {m : Nat} (hc : c = .lst (lD l) ∨ c = .tup (lD l)) (hp : ∀ x ∈ l, 0 < x) (hg : gcdL l = 1) (hm : m ∈ l) (hml : ∀ y ∈ l, m ≤ y) (hb : bnd l + m < 400000) (hlen : l.length < 10000000) :
    ∀ (k fuel top : Nat) (x2 x3 x4 x5 : SV), k < fuel → 0 < top → bnd l + m ≤ top + k → top < 2 * (bnd l + m) + 65 → sWhile (sTest (sC (.bl true))) hoW fuel [.im c, .im (nD top), x2, x3, x4, x5] 0 = .rt (.lst (lD (gapsL l))) 0
  | k, 0, _, _, _, _, _, h, _, _, _ => by omega
  | k, fuel + 1, top, x2, x3, x4, x5, h1, h2, h3, h4 => by
    have ht : top < 900000 := by omega
    have a1 : sAsg 2 (sCallP g__law_sieve (sCons (sVar 0) (sCons (sVar 1) sNil))) [.im c, .im (nD top), x2, x3, x4, x5] 0 = .nx [.im c, .im (nD top), .im (.lst ((List.range (top + 1)).map (bS l))), x3, x4, x5] 0 := by
      simp only [sSeq, sNext, sIfS, sRet, sDrop, sAsg, sPar, sAug, sAsgN, sParN, sParM, sApp, sExt, sSetIx, sFrz, sRaise, sVar, sC, sOp, sUn, sCb, sCons, sConsTw, sNil, sTup, sLst, nLst, nOp, sNw, sTest, sAnd, sOr, sNot, sAndV, sOrV, sNotV, sIf, sChain, sIxOw, sLenOw, sSl, sSlOw, sPart, sNoPart, sCallP, sCallT, liftR, noEx, sThaw, sThawT, sIsi, sFor, nSeq, nRng1, nRng2, nLc, sTick, sYes, bindE, bindS, optE, asB, asI, G.plain, gN, gT, gTs, wipeD, Option.map, Option.bind, List.getElem?_cons_zero, List.getElem?_cons_succ, List.set_cons_zero, List.set_cons_succ, List.getElem?_nil, List.length_cons, List.length_nil, sieve_eq hc hp hlen ht]
    have a2 : sAsg 3 (sC (.int 0)) [.im c, .im (nD top), .im (.lst ((List.range (top + 1)).map (bS l))), x3, x4, x5] 0 = .nx [.im c, .im (nD top), .im (.lst ((List.range (top + 1)).map (bS l))), .im (nD 0), x4, x5] 0 := rfl
    have t1 : sTest (sC (.bl true)) [.im c, .im (nD top), x2, x3, x4, x5] 0 = .ok (true, 0) := rfl
    rcases ho_for (x4 := x4) (x5 := x5) hc hp hg hm hml ht with e | ⟨hlt, y3, y4, y5, e⟩
    · have e1 : hoW [.im c, .im (nD top), x2, x3, x4, x5] 0 = .rt (.lst (lD (gapsL l))) 0 := (sSeq_nx a1).trans ((sSeq_nx a2).trans (sSeq_rt e))
      exact sWhile_rt t1 e1
    · have a3 : sAsg 1 (sOp dMul (sC (.int 2)) (sVar 1)) [.im c, .im (nD top), .im (.lst ((List.range (top + 1)).map (bS l))), y3, y4, y5] 0 = .nx [.im c, .im (nD (2 * top)), .im (.lst ((List.range (top + 1)).map (bS l))), y3, y4, y5] 0 := by
        simp only [sSeq, sNext, sIfS, sRet, sDrop, sAsg, sPar, sAug, sAsgN, sParN, sParM, sApp, sExt, sSetIx, sFrz, sRaise, sVar, sC, sOp, sUn, sCb, sCons, sConsTw, sNil, sTup, sLst, nLst, nOp, sNw, sTest, sAnd, sOr, sNot, sAndV, sOrV, sNotV, sIf, sChain, sIxOw, sLenOw, sSl, sSlOw, sPart, sNoPart, sCallP, sCallT, liftR, noEx, sThaw, sThawT, sIsi, sFor, nSeq, nRng1, nRng2, nLc, sTick, sYes, bindE, bindS, optE, asB, asI, G.plain, gN, gT, gTs, wipeD, Option.map, Option.bind, List.getElem?_cons_zero, List.getElem?_cons_succ, List.set_cons_zero, List.set_cons_succ, List.getElem?_nil, List.length_cons, List.length_nil, dMul2]
      have e1 : hoW [.im c, .im (nD top), x2, x3, x4, x5] 0 = _ := (sSeq_nx a1).trans ((sSeq_nx a2).trans ((sSeq_nx e).trans a3))
      rw [sWhile_go t1 e1]
      cases k with
      | zero => omega
      | succ k => exact ho_while hc hp hg hm hml hb hlen k fuel (2 * top) _ _ _ _ (by omega) (by omega) (by omega) (by omega)
theorem holes_eq {c : D} {l : List Nat} {m : Nat} (hc : c = .lst (lD l) ∨ c = .tup (lD l)) (hp : ∀ x ∈ l, 0 < x) (hg : gcdL l = 1) (hm : m ∈ l) (hml : ∀ y ∈ l, m ≤ y) (hb : bnd l + m < 400000) (hlen : l.length < 10000000) : g__law_holes [c] = .ok (.lst (lD (gapsL l))) := by
  have h := ho_while hc hp hg hm hml hb hlen (bnd l + m) FUEL 64 .un .un .un .un (by show _ < 1000000; omega) (by omega) (by omega) (by omega)
  have e : f__law_holes [.im c, .un, .un, .un, .un, .un] 0 = .rt (.lst (lD (gapsL l))) 0 := (sSeq_nx rfl).trans h
  show endP (f__law_holes [.im c, .un, .un, .un, .un, .un] 0) = _
  rw [e]
  rfl
end Gp
end

section
set_option linter.all false
set_option backward.match.sparseCases false
set_option maxRecDepth 100000
namespace Gp
open G PySem Sg Classical
/-! ### sorted(set(...)) -/
theorem insU_n (x : Nat) : ∀ l : List Nat, insU (Int.ofNat x) (l.map Int.ofNat) = (insN x l).map Int.ofNat
  | [] => rfl
  | y :: r => by
    have ih := insU_n x r
    rw [List.map_cons]
    unfold insU insN
    rw [ih]
    by_cases h1 : x < y
    · rw [if_pos h1, if_pos (by rw [ofN, ofN]; omega)]
      rfl
    · rw [if_neg h1, if_neg (by rw [ofN, ofN]; omega)]
      by_cases h2 : x = y
      · rw [if_pos h2, if_pos (by rw [ofN, ofN]; omega)]
        rfl
      · rw [if_neg h2, if_neg (by rw [ofN, ofN]; omega)]
        rfl
theorem usort_n : ∀ l : List Nat, usort (l.map Int.ofNat) = (us l).map Int.ofNat
  | [] => rfl
  | x :: r => by
    show insU (Int.ofNat x) (usort (r.map Int.ofNat)) = _
    rw [usort_n r, insU_n]
    rfl
theorem sSortSet_eq {fe : SE} {s : SD} {n n1 : Nat} {c : D} {l : List Nat} (h : fe s n = .ok (c, n1)) (hc : c = .lst (lD l) ∨ c = .tup (lD l)) (hb : l.length < 4000) : sSortSet fe s n = .ok (.lst (lD (us l)), n1) := by
  unfold sSortSet
  rw [h]
  have e1 : seqInts c = some (l.map Int.ofNat) := by
    rcases hc with rfl | rfl <;> exact intsD_lD l
  show (match seqInts c with
    | some ns => if ns.length < 4000 then R.ok (D.lst ((usort ns).map D.int), n1) else R.no
    | none => R.no) = _
  rw [e1]
  show (if (l.map Int.ofNat).length < 4000 then R.ok (D.lst ((usort (l.map Int.ofNat)).map D.int), n1) else .no) = _
  rw [if_pos (by rw [List.length_map]; exact hb), usort_n, List.map_map]
  rfl
theorem lD_append (l l' : List Nat) : lD (l ++ l') = lD l ++ lD l' := List.map_append ..
/-! ### _law_least_set -/
theorem mgF_take {k l : List Nat} {i x : Nat} (h : l[i]? = some x) : mgF k (l.take (i + 1)) = keep (mgF k (l.take i)) x := foldl_take keep k l i x h
theorem mgF_len : ∀ (l k : List Nat), (mgF k l).length ≤ k.length + l.length
  | [], k => Nat.le_refl _
  | x :: l, k => by
    have h := mgF_len l (keep k x)
    have h2 := (keep_sublist k x).length_le
    rw [List.length_append] at h2
    rw [List.length_cons]
    show (mgF (keep k x) l).length ≤ _
    have h3 : [x].length = 1 := rfl
    omega
theorem ls_test {c : D} {k : List Nat} {x : Nat} (hp : ∀ y ∈ k, 0 < y) (hx : 0 < x) (hxb : x < 900000) (hk : k.length < 10000000) : (sThawT 1 (sOr (sTest (sOp dEq (sVar 1) (sLst sNil))) (sNot (sTest (sOp dIx (sCallP g__law_sieve (sCons (sVar 1) (sCons (sVar 2) sNil))) (sVar 2)))))) [.im c, .ow (lD k), .im (nD x)] 0 = .ok (noS k x, 0) := by
  have e1 := dEq_lst k []
  have hb0 : (0 : Nat) < big := big_of (by omega)
  have e2 : g__law_sieve [.lst (lD k), nD x] = _ := sieve_eq (.inl rfl) hp hk hxb
  have e3 := bS_at (l := k) (top := x) (i := x) (Nat.le_refl _)
  by_cases h : k = []
  · rw [decide_eq_true h] at e1
    have h2 : noS k x = true := decide_eq_true fun s => by
      rw [h] at s
      have := s.nil
      omega
    simp only [sSeq, sNext, sIfS, sRet, sDrop, sAsg, sPar, sAug, sAsgN, sParN, sParM, sApp, sExt, sSetIx, sFrz, sRaise, sVar, sC, sOp, sUn, sCb, sCons, sConsTw, sNil, sTup, sLst, nLst, nOp, sNw, sTest, sAnd, sOr, sNot, sAndV, sOrV, sNotV, sIf, sChain, sIxOw, sLenOw, sSl, sSlOw, sPart, sNoPart, sCallP, sCallT, liftR, noEx, sThaw, sThawT, sIsi, sFor, nSeq, nRng1, nRng2, nLc, sTick, sYes, bindE, bindS, optE, asB, asI, G.plain, gN, gT, gTs, wipeD, Option.map, Option.bind, List.getElem?_cons_zero, List.getElem?_cons_succ, List.set_cons_zero, List.set_cons_succ, List.getElem?_nil, List.length_cons, List.length_nil, hb0, if_true, show dEq (.lst (lD k)) (.lst []) = _ from e1, h2]
  · rw [decide_eq_false h] at e1
    simp only [sSeq, sNext, sIfS, sRet, sDrop, sAsg, sPar, sAug, sAsgN, sParN, sParM, sApp, sExt, sSetIx, sFrz, sRaise, sVar, sC, sOp, sUn, sCb, sCons, sConsTw, sNil, sTup, sLst, nLst, nOp, sNw, sTest, sAnd, sOr, sNot, sAndV, sOrV, sNotV, sIf, sChain, sIxOw, sLenOw, sSl, sSlOw, sPart, sNoPart, sCallP, sCallT, liftR, noEx, sThaw, sThawT, sIsi, sFor, nSeq, nRng1, nRng2, nLc, sTick, sYes, bindE, bindS, optE, asB, asI, G.plain, gN, gT, gTs, wipeD, Option.map, Option.bind, List.getElem?_cons_zero, List.getElem?_cons_succ, List.set_cons_zero, List.set_cons_succ, List.getElem?_nil, List.length_cons, List.length_nil, hb0, if_true, show dEq (.lst (lD k)) (.lst []) = _ from e1, e2, e3, noS_not]
theorem leastSet_eq {l : List Nat} {c : D} (hc : c = .lst (lD l) ∨ c = .tup (lD l)) (hp : ∀ x ∈ l, 0 < x) (hb : ∀ x ∈ l, x < 900000) (hl : l.length < 4000) : g__law_least_set [c] = .ok (.tup (lD (gens l))) := by
  obtain ⟨s', e, y2, es⟩ := loopS_inv0 (tg := gN 2) (f := sIfS (sThawT 1 (sOr (sTest (sOp dEq (sVar 1) (sLst sNil))) (sNot (sTest (sOp dIx (sCallP g__law_sieve (sCons (sVar 1) (sCons (sVar 2) sNil))) (sVar 2)))))) (sApp 1 (sVar 2)) sNext) (n := 0)
    (fun i s => ∃ y2, s = [.im c, .ow (lD (mgF [] ((us l).take i))), y2]) (ds := lD (us l)) (s := [.im c, .ow [], .un]) ⟨.un, rfl⟩ fun i d s hi hI => by
      obtain ⟨x, hx, ed⟩ := lD_get hi
      obtain ⟨y2, es⟩ := hI
      subst ed es
      have hxl : x ∈ l := (us_mem x l).mp (List.mem_of_getElem? hx)
      have hlen : (mgF [] ((us l).take i)).length < 10000000 := by
        have h1 := mgF_len ((us l).take i) []
        have h2 : ((us l).take i).length ≤ (us l).length := by rw [List.length_take]; omega
        have h3 := us_len l
        rw [List.length_nil] at h1
        omega
      have t := ls_test (c := c) (k := mgF [] ((us l).take i)) (x := x) (fun y hy => by
        rcases mgF_of _ _ _ hy with h | h
        · cases h
        · exact hp y ((us_mem y l).mp (List.mem_of_mem_take h))) (hp x hxl) (hb x hxl) hlen
      refine ⟨[.im c, .ow (lD (mgF [] ((us l).take i))), .im (nD x)], ?_⟩
      rw [mgF_take hx]
      unfold keep
      by_cases h : Sum (mgF [] ((us l).take i)) x
      · rw [show noS (mgF [] ((us l).take i)) x = false from decide_eq_false (by rw [Classical.not_not]; exact h)] at t
        rw [if_pos h]
        exact ⟨_, rfl, sIfS_f t, _, rfl⟩
      · rw [show noS (mgF [] ((us l).take i)) x = true from decide_eq_true h] at t
        rw [if_neg h]
        refine ⟨_, rfl, (sIfS_t t).trans (sApp_eq (ds := lD (mgF [] ((us l).take i))) rfl rfl (by rw [List.length_map]; exact hlen)), .im (nD x), ?_⟩
        rw [lD_append]
        rfl
  rw [List.length_map, List.take_length] at es
  have hb0 : (0 : Nat) < big := big_of (by omega)
  have a1 : sAsgN 1 (nLst sNil) [.im c, .un, .un] 0 = .nx [.im c, .ow [], .un] 0 := by
    simp only [sSeq, sNext, sIfS, sRet, sDrop, sAsg, sPar, sAug, sAsgN, sParN, sParM, sApp, sExt, sSetIx, sFrz, sRaise, sVar, sC, sOp, sUn, sCb, sCons, sConsTw, sNil, sTup, sLst, nLst, nOp, sNw, sTest, sAnd, sOr, sNot, sAndV, sOrV, sNotV, sIf, sChain, sIxOw, sLenOw, sSl, sSlOw, sPart, sNoPart, sCallP, sCallT, liftR, noEx, sThaw, sThawT, sIsi, sFor, nSeq, nRng1, nRng2, nLc, sTick, sYes, bindE, bindS, optE, asB, asI, G.plain, gN, gT, gTs, wipeD, Option.map, Option.bind, List.getElem?_cons_zero, List.getElem?_cons_succ, List.set_cons_zero, List.set_cons_succ, List.getElem?_nil, List.length_cons, List.length_nil, hb0, if_true]
  have a2 := (sFor_eq (it := nSeq (sSortSet (sVar 0))) (tg := gN 2) (ds := lD (us l)) (n1 := 0) (by
    have := sSortSet_eq (fe := sVar 0) (s := [.im c, .ow [], .un]) (n := 0) (n1 := 0) rfl hc hl
    unfold nSeq
    rw [this]
    rfl)).trans e
  have e5 : f__law_least_set [.im c, .un, .un] 0 = .rt (.tup (lD (gens l))) 0 := (sSeq_nx a1).trans ((sSeq_nx a2).trans (by rw [es]; rfl))
  show endP (f__law_least_set [.im c, .un, .un] 0) = _
  rw [e5]
  rfl
end Gp
end

section
set_option linter.all false
set_option backward.match.sparseCases false
set_option maxRecDepth 100000
namespace Gp
open G PySem Sg Classical
/-! ### reduced -/
theorem cut1 {α : Type} (x : α) (xs : List α) : cutL (x :: xs) (some 1) none = xs := by
  unfold cutL
  rw [show (some (1 : Int)) = some ((1 : Nat) : Int) from rfl, HT.sIx_nat, HT.sIx_none, List.length_cons, show min 1 (xs.length + 1) = 1 by omega]
  show (xs.take (xs.length + 1 - 1)) = xs
  rw [Nat.add_sub_cancel, List.take_length]
theorem tD_ix {L : Tab} {p : Nat} {o : Option Nat} (h : L[p]? = some o) : dIx (.lst (tD L)) (nD p) = some (oD o) := tD_at h
theorem lD_ix {l : List Nat} {p x : Nat} (h : l[p]? = some x) : dIx (.lst (lD l)) (nD p) = some (nD x) := L2.atI_nat (by rw [List.getElem?_map, h]; rfl)
theorem lD_ixT {l : List Nat} {p x : Nat} (h : l[p]? = some x) : dIx (.tup (lD l)) (nD p) = some (nD x) := L2.atI_nat (by rw [List.getElem?_map, h]; rfl)
abbrev rdT : ST := sOr (sTest (sOp dIs (sOp dIx (sVar 4) (sOp dMod (sVar 5) (sVar 2))) (sC .non))) (sTest (sOp dGt (sOp dIx (sVar 4) (sOp dMod (sVar 5) (sVar 2))) (sVar 5)))
theorem rd_test {c od : D} {F : List Nat} {m x : Nat} (hm : 0 < m) : rdT [.im c, .im od, .im (nD m), .ow (lD (m :: F)), .im (.lst (tD (leastBy F m))), .im (nD x)] 0 = .ok (noS (m :: F) x, 0) := by
  have ex := leastBy_exact F hm
  have e1 := dMod_n (a := x) hm
  have hx : x % m < m := Nat.mod_lt _ hm
  obtain ⟨o, ho⟩ : ∃ o, (leastBy F m)[x % m]? = some o := ⟨_, List.getElem?_eq_getElem (by rw [ex.len]; exact hx)⟩
  have e2 := tD_ix ho
  have hiff := ex.sum_iff hm x
  cases o with
  | none =>
    have e2 : dIx (.lst (tD (leastBy F m))) (nD (x % m)) = some .non := e2
    have h1 : noS (m :: F) x = true := decide_eq_true fun s => by
      obtain ⟨v, hv, _⟩ := hiff.mp s
      rw [ho] at hv
      cases hv
    simp only [sSeq, sNext, sIfS, sRet, sDrop, sAsg, sPar, sAug, sAsgN, sParN, sParM, sApp, sExt, sSetIx, sFrz, sRaise, sVar, sC, sOp, sUn, sCb, sCons, sConsTw, sNil, sTup, sLst, nLst, nOp, sNw, sTest, sAnd, sOr, sNot, sAndV, sOrV, sNotV, sIf, sChain, sIxOw, sLenOw, sSl, sSlOw, sPart, sNoPart, sCallP, sCallT, liftR, noEx, sThaw, sThawT, sIsi, sFor, nSeq, nRng1, nRng2, nLc, sTick, sYes, bindE, bindS, optE, asB, asI, G.plain, gN, gT, gTs, wipeD, Option.map, Option.bind, List.getElem?_cons_zero, List.getElem?_cons_succ, List.set_cons_zero, List.set_cons_succ, List.getElem?_nil, List.length_cons, List.length_nil, e1, e2, dIs, isN, h1]
  | some v =>
    have e2 : dIx (.lst (tD (leastBy F m))) (nD (x % m)) = some (nD v) := e2
    have e3 := dGt_n v x
    have h1 : noS (m :: F) x = decide (x < v) := by
      unfold noS
      rw [Bool.eq_iff_iff, decide_eq_true_iff, decide_eq_true_iff, hiff]
      constructor
      · intro h
        rcases Nat.lt_or_ge x v with h2 | h2
        · exact h2
        · exact absurd ⟨v, ho, h2⟩ h
      · rintro h ⟨w, hw, hle⟩
        rw [ho] at hw
        cases hw
        omega
    simp only [sSeq, sNext, sIfS, sRet, sDrop, sAsg, sPar, sAug, sAsgN, sParN, sParM, sApp, sExt, sSetIx, sFrz, sRaise, sVar, sC, sOp, sUn, sCb, sCons, sConsTw, sNil, sTup, sLst, nLst, nOp, sNw, sTest, sAnd, sOr, sNot, sAndV, sOrV, sNotV, sIf, sChain, sIxOw, sLenOw, sSl, sSlOw, sPart, sNoPart, sCallP, sCallT, liftR, noEx, sThaw, sThawT, sIsi, sFor, nSeq, nRng1, nRng2, nLc, sTick, sYes, bindE, bindS, optE, asB, asI, G.plain, gN, gT, gTs, wipeD, Option.map, Option.bind, List.getElem?_cons_zero, List.getElem?_cons_succ, List.set_cons_zero, List.set_cons_succ, List.getElem?_nil, List.length_cons, List.length_nil, e1, e2, e3, dIs, isN, h1]
theorem mgF_cons (m : Nat) : ∀ (l F : List Nat), ∃ F', mgF (m :: F) l = m :: F'
  | [], F => ⟨F, rfl⟩
  | x :: l, F => by
    show ∃ F', mgF (keep (m :: F) x) l = m :: F'
    unfold keep
    split
    · exact mgF_cons m l F
    · exact mgF_cons m l (F ++ [x])
theorem reduced_eq {l : List Nat} {c : D} (hc : c = .lst (lD l) ∨ c = .tup (lD l)) (hne : l ≠ []) (hp : ∀ x ∈ l, 0 < x) (hb : ∀ x ∈ l, x < 400000) (hl : l.length < 4000) : g_reduced [c] = .ok (.tup (lD (gens l))) := by
  have hlen := us_len l
  have hmem := fun x => us_mem x l
  have hg : gens l = mg (us l) := rfl
  have hs1 := sSortSet_eq (fe := sVar 0) (s := [.im c, .un, .un, .un, .un, .un]) (n := 0) (n1 := 0) rfl hc hl
  cases eu : us l with
  | nil =>
    cases l with
    | nil => exact absurd rfl hne
    | cons x r =>
      have := (hmem x).mpr List.mem_cons_self
      rw [eu] at this
      cases this
  | cons m t =>
    rw [eu] at hlen hg hs1 hmem
    have hml : m ∈ l := (hmem m).mp List.mem_cons_self
    have hm := hp m hml
    have hmb := hb m hml
    have hg2 : gens l = mgF [m] t := by
      rw [hg]
      show mgF (keep [] m) t = _
      unfold keep
      rw [if_neg fun s => by have := s.nil; omega]
      rfl
    have hb1 : (0 + 1 : Nat) < big := big_of (by omega)
    have hb0 : (0 : Nat) < big := big_of (by omega)
    have a1 : sAsg 1 (sSortSet (sVar 0)) [.im c, .un, .un, .un, .un, .un] 0 = .nx [.im c, .im (.lst (lD (m :: t))), .un, .un, .un, .un] 0 := sAsg_eq hs1
    have e2 : dIx (.lst (lD (m :: t))) (.int 0) = some (nD m) := lD_ix (p := 0) rfl
    have a2 : sAsg 2 (sOp dIx (sVar 1) (sC (.int 0))) [.im c, .im (.lst (lD (m :: t))), .un, .un, .un, .un] 0 = .nx [.im c, .im (.lst (lD (m :: t))), .im (nD m), .un, .un, .un] 0 := by
      simp only [sSeq, sNext, sIfS, sRet, sDrop, sAsg, sPar, sAug, sAsgN, sParN, sParM, sApp, sExt, sSetIx, sFrz, sRaise, sVar, sC, sOp, sUn, sCb, sCons, sConsTw, sNil, sTup, sLst, nLst, nOp, sNw, sTest, sAnd, sOr, sNot, sAndV, sOrV, sNotV, sIf, sChain, sIxOw, sLenOw, sSl, sSlOw, sPart, sNoPart, sCallP, sCallT, liftR, noEx, sThaw, sThawT, sIsi, sFor, nSeq, nRng1, nRng2, nLc, sTick, sYes, bindE, bindS, optE, asB, asI, G.plain, gN, gT, gTs, wipeD, Option.map, Option.bind, List.getElem?_cons_zero, List.getElem?_cons_succ, List.set_cons_zero, List.set_cons_succ, List.getElem?_nil, List.length_cons, List.length_nil, e2]
    have e3 : g_least_by [.lst [], nD m] = .ok (.lst (tD (leastBy [] m))) := least_eq (l := []) (.inl rfl) hm hmb
    have a3 : sParN 3 4 (nLst (sCons (sVar 2) sNil)) (sCallP g_least_by (sCons (sLst sNil) (sCons (sVar 2) sNil))) [.im c, .im (.lst (lD (m :: t))), .im (nD m), .un, .un, .un] 0 = .nx [.im c, .im (.lst (lD (m :: t))), .im (nD m), .ow (lD [m]), .im (.lst (tD (leastBy [] m))), .un] 0 := by
      simp only [sSeq, sNext, sIfS, sRet, sDrop, sAsg, sPar, sAug, sAsgN, sParN, sParM, sApp, sExt, sSetIx, sFrz, sRaise, sVar, sC, sOp, sUn, sCb, sCons, sConsTw, sNil, sTup, sLst, nLst, nOp, sNw, sTest, sAnd, sOr, sNot, sAndV, sOrV, sNotV, sIf, sChain, sIxOw, sLenOw, sSl, sSlOw, sPart, sNoPart, sCallP, sCallT, liftR, noEx, sThaw, sThawT, sIsi, sFor, nSeq, nRng1, nRng2, nLc, sTick, sYes, bindE, bindS, optE, asB, asI, G.plain, gN, gT, gTs, wipeD, Option.map, Option.bind, List.getElem?_cons_zero, List.getElem?_cons_succ, List.set_cons_zero, List.set_cons_succ, List.getElem?_nil, List.length_cons, List.length_nil, hb1, hb0, if_true, e3]
      rfl
    obtain ⟨s', e, F, y5, eF, es⟩ := loopS_inv0 (tg := gN 5) (f := sIfS rdT (sSeq (sApp 3 (sVar 5)) (sAsg 4 (sCallP g_least_by (sCons (sSlOw 3 (sPart (sC (.int 1))) sNoPart) (sCons (sVar 2) sNil))))) sNext) (n := 0)
      (fun i s => ∃ F y5, mgF [m] (t.take i) = m :: F ∧ s = [.im c, .im (.lst (lD (m :: t))), .im (nD m), .ow (lD (m :: F)), .im (.lst (tD (leastBy F m))), y5])
      (ds := lD t) (s := [.im c, .im (.lst (lD (m :: t))), .im (nD m), .ow (lD [m]), .im (.lst (tD (leastBy [] m))), .un]) ⟨[], .un, rfl, rfl⟩ fun i d s hi hI => by
        obtain ⟨x, hx, ed⟩ := lD_get hi
        obtain ⟨F, y5, eF, es⟩ := hI
        subst ed es
        have t1 := rd_test (c := c) (od := .lst (lD (m :: t))) (F := F) (x := x) hm
        have hFl : (m :: F).length < 10000000 := by
          have h1 := mgF_len (t.take i) [m]
          have h2 : (t.take i).length ≤ t.length := by rw [List.length_take]; omega
          rw [eF] at h1
          rw [List.length_cons] at hlen
          have h3 : [m].length = 1 := rfl
          omega
        refine ⟨[.im c, .im (.lst (lD (m :: t))), .im (nD m), .ow (lD (m :: F)), .im (.lst (tD (leastBy F m))), .im (nD x)], ?_⟩
        rw [mgF_take hx, eF]
        unfold keep
        by_cases h : Sum (m :: F) x
        · rw [show noS (m :: F) x = false from decide_eq_false (by rw [Classical.not_not]; exact h)] at t1
          rw [if_pos h]
          exact ⟨_, rfl, sIfS_f t1, F, _, rfl, rfl⟩
        · rw [show noS (m :: F) x = true from decide_eq_true h] at t1
          rw [if_neg h]
          have b1 : sApp 3 (sVar 5) [.im c, .im (.lst (lD (m :: t))), .im (nD m), .ow (lD (m :: F)), .im (.lst (tD (leastBy F m))), .im (nD x)] 0 = .nx [.im c, .im (.lst (lD (m :: t))), .im (nD m), .ow (lD (m :: (F ++ [x]))), .im (.lst (tD (leastBy F m))), .im (nD x)] 0 := by
            refine (sApp_eq (ds := lD (m :: F)) rfl rfl (by rw [List.length_map]; exact hFl)).trans ?_
            rw [show lD (m :: (F ++ [x])) = lD (m :: F) ++ [nD x] by rw [← List.cons_append, lD_append]; rfl]
            rfl
          have e4 : cutL (lD (m :: (F ++ [x]))) (some 1) none = lD (F ++ [x]) := cut1 _ _
          have e5 : g_least_by [.lst (lD (F ++ [x])), nD m] = .ok (.lst (tD (leastBy (F ++ [x]) m))) := least_eq (.inl rfl) hm hmb
          have b2 : sAsg 4 (sCallP g_least_by (sCons (sSlOw 3 (sPart (sC (.int 1))) sNoPart) (sCons (sVar 2) sNil))) [.im c, .im (.lst (lD (m :: t))), .im (nD m), .ow (lD (m :: (F ++ [x]))), .im (.lst (tD (leastBy F m))), .im (nD x)] 0 = .nx [.im c, .im (.lst (lD (m :: t))), .im (nD m), .ow (lD (m :: (F ++ [x]))), .im (.lst (tD (leastBy (F ++ [x]) m))), .im (nD x)] 0 := by
            simp only [sSeq, sNext, sIfS, sRet, sDrop, sAsg, sPar, sAug, sAsgN, sParN, sParM, sApp, sExt, sSetIx, sFrz, sRaise, sVar, sC, sOp, sUn, sCb, sCons, sConsTw, sNil, sTup, sLst, nLst, nOp, sNw, sTest, sAnd, sOr, sNot, sAndV, sOrV, sNotV, sIf, sChain, sIxOw, sLenOw, sSl, sSlOw, sPart, sNoPart, sCallP, sCallT, liftR, noEx, sThaw, sThawT, sIsi, sFor, nSeq, nRng1, nRng2, nLc, sTick, sYes, bindE, bindS, optE, asB, asI, G.plain, gN, gT, gTs, wipeD, Option.map, Option.bind, List.getElem?_cons_zero, List.getElem?_cons_succ, List.set_cons_zero, List.set_cons_succ, List.getElem?_nil, List.length_cons, List.length_nil, e4, e5]
          exact ⟨_, rfl, (sIfS_t t1).trans ((sSeq_nx b1).trans b2), F ++ [x], _, rfl, rfl⟩
    rw [List.length_map, List.take_length] at eF
    have e6 : dSl (.lst (lD (m :: t))) (some 1) none = some (.lst (lD t)) := by
      show some (D.lst (cutL (lD (m :: t)) (some 1) none)) = _
      rw [show cutL (lD (m :: t)) (some 1) none = lD t from cut1 _ _]
    have a4 := (sFor_eq (it := nSeq (sSl dSl (sVar 1) (sPart (sC (.int 1))) sNoPart)) (tg := gN 5) (ds := lD t) (n := 0) (n1 := 0) (s := [.im c, .im (.lst (lD (m :: t))), .im (nD m), .ow (lD [m]), .im (.lst (tD (leastBy [] m))), .un]) (by
      simp only [sSeq, sNext, sIfS, sRet, sDrop, sAsg, sPar, sAug, sAsgN, sParN, sParM, sApp, sExt, sSetIx, sFrz, sRaise, sVar, sC, sOp, sUn, sCb, sCons, sConsTw, sNil, sTup, sLst, nLst, nOp, sNw, sTest, sAnd, sOr, sNot, sAndV, sOrV, sNotV, sIf, sChain, sIxOw, sLenOw, sSl, sSlOw, sPart, sNoPart, sCallP, sCallT, liftR, noEx, sThaw, sThawT, sIsi, sFor, nSeq, nRng1, nRng2, nLc, sTick, sYes, bindE, bindS, optE, asB, asI, G.plain, gN, gT, gTs, wipeD, Option.map, Option.bind, List.getElem?_cons_zero, List.getElem?_cons_succ, List.set_cons_zero, List.set_cons_succ, List.getElem?_nil, List.length_cons, List.length_nil, e6, seqOf])).trans e
    have e7 : f_reduced [.im c, .un, .un, .un, .un, .un] 0 = .rt (.tup (lD (gens l))) 0 := (sSeq_nx a1).trans ((sSeq_nx a2).trans ((sSeq_nx a3).trans ((sSeq_nx a4).trans (by rw [es, hg2, eF]; rfl))))
    show endP (f_reduced [.im c, .un, .un, .un, .un, .un] 0) = _
    rw [e7]
    rfl
end Gp
end

section
set_option linter.all false
set_option backward.match.sparseCases false
set_option maxRecDepth 100000
namespace Gp
open G PySem Sg Classical
/-! ### is_integer -/
theorem isInt_eq (a lo hi : Nat) : g_is_integer [nD a, nD lo, nD hi] = .ok (.bl (decide (lo ≤ a ∧ a ≤ hi))) := by
  have e1 := dLe_n lo a
  have e2 := dLe_n a hi
  show endP (f_is_integer [.im (nD a), .im (nD lo), .im (nD hi)] 0) = _
  have i1 : isiT "int" (nD a) = some true := rfl
  have i2 : isiT "bool" (nD a) = some false := rfl
  have e3 : f_is_integer [.im (nD a), .im (nD lo), .im (nD hi)] 0 = .rt (.bl (decide (lo ≤ a ∧ a ≤ hi))) 0 := by
    unfold f_is_integer
    by_cases h1 : lo ≤ a
    · rw [decide_eq_true h1] at e1
      simp only [h1, true_and]
      simp only [sSeq, sNext, sIfS, sRet, sDrop, sAsg, sPar, sAug, sAsgN, sParN, sParM, sApp, sExt, sSetIx, sFrz, sRaise, sVar, sC, sOp, sUn, sCb, sCons, sConsTw, sNil, sTup, sLst, nLst, nOp, sNw, sTest, sAnd, sOr, sNot, sAndV, sOrV, sNotV, sIf, sChain, sIxOw, sLenOw, sSl, sSlOw, sPart, sNoPart, sCallP, sCallT, liftR, noEx, sThaw, sThawT, sIsi, sFor, nSeq, nRng1, nRng2, nLc, sTick, sYes, bindE, bindS, optE, asB, asI, G.plain, gN, gT, gTs, wipeD, Option.map, Option.bind, List.getElem?_cons_zero, List.getElem?_cons_succ, List.set_cons_zero, List.set_cons_succ, List.getElem?_nil, List.length_cons, List.length_nil, i1, i2, e1, e2, Bool.not_false]
    · rw [decide_eq_false h1] at e1
      simp only [h1, false_and, decide_false]
      simp only [sSeq, sNext, sIfS, sRet, sDrop, sAsg, sPar, sAug, sAsgN, sParN, sParM, sApp, sExt, sSetIx, sFrz, sRaise, sVar, sC, sOp, sUn, sCb, sCons, sConsTw, sNil, sTup, sLst, nLst, nOp, sNw, sTest, sAnd, sOr, sNot, sAndV, sOrV, sNotV, sIf, sChain, sIxOw, sLenOw, sSl, sSlOw, sPart, sNoPart, sCallP, sCallT, liftR, noEx, sThaw, sThawT, sIsi, sFor, nSeq, nRng1, nRng2, nLc, sTick, sYes, bindE, bindS, optE, asB, asI, G.plain, gN, gT, gTs, wipeD, Option.map, Option.bind, List.getElem?_cons_zero, List.getElem?_cons_succ, List.set_cons_zero, List.set_cons_succ, List.getElem?_nil, List.length_cons, List.length_nil, i1, i2, e1, Bool.not_false]
  rw [e3]
  rfl
theorem bAll_of {l : List Nat} (p : Nat → Bool) : bAll [.lst (l.map fun x => D.bl (p x))] = some (.bl (l.all p)) := by
  have e1 : blArg [.lst (l.map fun x => D.bl (p x))] = some (l.map p) := by
    show blsD (l.map fun x => D.bl (p x)) = _
    rw [show (l.map fun x => D.bl (p x)) = (l.map p).map D.bl by rw [List.map_map]; rfl]
    exact blsD_map _
  unfold bAll
  rw [e1]
  show some (D.bl ((l.map p).all id)) = _
  rw [List.all_map]
  rfl
/-! ### is_semigroup -/
structure IsSg (l : List Nat) : Prop where
  len1 : 1 ≤ l.length
  len2 : l.length ≤ 12
  lo : ∀ x ∈ l, 1 ≤ x
  hi : ∀ x ∈ l, x ≤ 99
  gcd : gcdL l = 1
  self : gens l = l
theorem isSg_eq {l : List Nat} (h1 : 1 ≤ l.length) (h2 : l.length ≤ 12) (lo : ∀ x ∈ l, 1 ≤ x) (hi : ∀ x ∈ l, x ≤ 99) (hg : gcdL l = 1) : g_is_semigroup [.tup (lD l)] = .ok (.bl (decide (gens l = l))) := by
  have hne : l ≠ [] := fun e => by
    rw [e] at h1
    exact absurd h1 (by decide)
  have i1 : isiT "tuple" (.tup (lD l)) = some true := rfl
  have e1 := bLen_of (c := .tup (lD l)) (.inr rfl)
  have e2 : dLe (.int 1) (nD l.length) = some (.bl true) := by
    have := dLe_n 1 l.length
    rwa [decide_eq_true h1] at this
  have e3 : dLe (nD l.length) (.int 12) = some (.bl true) := by
    have := dLe_n l.length 12
    rwa [decide_eq_true h2] at this
  have e4 : ∀ s1 s2 : SV, nLc (nSeq (sVar 0)) (gN 1) sYes (sCallP g_is_integer (sCons (sVar 1) (sCons (sC (.int 1)) (sCons (sC (.int 99)) sNil)))) [1] [.im (.tup (lD l)), s2] 0 = .ok (l.map (fun x => D.bl true), 0) := fun s1 s2 => by
    rw [nLc_eq (ds := lD l) (n1 := 0) (by simp only [sSeq, sNext, sIfS, sRet, sDrop, sAsg, sPar, sAug, sAsgN, sParN, sParM, sApp, sExt, sSetIx, sFrz, sRaise, sVar, sC, sOp, sUn, sCb, sCons, sConsTw, sNil, sTup, sLst, nLst, nOp, sNw, sTest, sAnd, sOr, sNot, sAndV, sOrV, sNotV, sIf, sChain, sIxOw, sLenOw, sSl, sSlOw, sPart, sNoPart, sCallP, sCallT, liftR, noEx, sThaw, sThawT, sIsi, sFor, nSeq, nRng1, nRng2, nLc, sTick, sYes, bindE, bindS, optE, asB, asI, G.plain, gN, gT, gTs, wipeD, Option.map, Option.bind, List.getElem?_cons_zero, List.getElem?_cons_succ, List.set_cons_zero, List.set_cons_succ, List.getElem?_nil, List.length_cons, List.length_nil, seqOf]) (by rw [List.length_map]; omega)]
    exact compR_lD _ fun x hx => by
      have := isInt_eq x 1 99
      rw [decide_eq_true ⟨lo x hx, hi x hx⟩] at this
      refine ⟨_, rfl, ?_⟩
      simp only [sSeq, sNext, sIfS, sRet, sDrop, sAsg, sPar, sAug, sAsgN, sParN, sParM, sApp, sExt, sSetIx, sFrz, sRaise, sVar, sC, sOp, sUn, sCb, sCons, sConsTw, sNil, sTup, sLst, nLst, nOp, sNw, sTest, sAnd, sOr, sNot, sAndV, sOrV, sNotV, sIf, sChain, sIxOw, sLenOw, sSl, sSlOw, sPart, sNoPart, sCallP, sCallT, liftR, noEx, sThaw, sThawT, sIsi, sFor, nSeq, nRng1, nRng2, nLc, sTick, sYes, bindE, bindS, optE, asB, asI, G.plain, gN, gT, gTs, wipeD, Option.map, Option.bind, List.getElem?_cons_zero, List.getElem?_cons_succ, List.set_cons_zero, List.set_cons_succ, List.getElem?_nil, List.length_cons, List.length_nil, show g_is_integer [nD x, .int 1, .int 99] = _ from this]
  have e5 := bAll_of (l := l) fun _ => true
  rw [show (l.all fun _ => true) = true from List.all_eq_true.mpr fun _ _ => rfl] at e5
  have e6 : g_common_divisor [.tup (lD l)] = .ok (nD 1) := by
    have := common_eq (l := l) (c := .tup (lD l)) (.inr rfl) fun x hx => by have := hi x hx; omega
    rwa [hg] at this
  have e7 : dNe (nD 1) (.int 1) = some (.bl false) := dNe_n 1 1
  have e8 : g_reduced [.tup (lD l)] = _ := reduced_eq (.inr rfl) hne (fun x hx => lo x hx) (fun x hx => by have := hi x hx; omega) (by omega)
  have e9 := dEq_tup (gens l) l
  show endP (f_is_semigroup [.im (.tup (lD l)), .un] 0) = _
  have e : f_is_semigroup [.im (.tup (lD l)), .un] 0 = .rt (.bl (decide (gens l = l))) 0 := by
    unfold f_is_semigroup
    have a1 : (sOr (sNot (sTest (sIsi "tuple" (sVar 0)))) (sNot (sTest (sChain dLe dLe (sC (.int 1)) (sCb bLen (sCons (sVar 0) sNil)) (sC (.int 12)))))) [.im (.tup (lD l)), .un] 0 = .ok (false, 0) := by
      simp only [sSeq, sNext, sIfS, sRet, sDrop, sAsg, sPar, sAug, sAsgN, sParN, sParM, sApp, sExt, sSetIx, sFrz, sRaise, sVar, sC, sOp, sUn, sCb, sCons, sConsTw, sNil, sTup, sLst, nLst, nOp, sNw, sTest, sAnd, sOr, sNot, sAndV, sOrV, sNotV, sIf, sChain, sIxOw, sLenOw, sSl, sSlOw, sPart, sNoPart, sCallP, sCallT, liftR, noEx, sThaw, sThawT, sIsi, sFor, nSeq, nRng1, nRng2, nLc, sTick, sYes, bindE, bindS, optE, asB, asI, G.plain, gN, gT, gTs, wipeD, Option.map, Option.bind, List.getElem?_cons_zero, List.getElem?_cons_succ, List.set_cons_zero, List.set_cons_succ, List.getElem?_nil, List.length_cons, List.length_nil, i1, e1, e2, e3, Bool.not_true]
    have a2 : sTest (sCb bAll (sCons (sNw (nLc (nSeq (sVar 0)) (gN 1) sYes (sCallP g_is_integer (sCons (sVar 1) (sCons (sC (.int 1)) (sCons (sC (.int 99)) sNil)))) [1])) sNil)) [.im (.tup (lD l)), .un] 0 = .ok (true, 0) := by
      have := sCons_eq (sNw_eq (e4 .un .un)) (fr := sNil) (n2 := 0) (xs := []) rfl
      unfold sTest sCb
      rw [this]
      simp only [sSeq, sNext, sIfS, sRet, sDrop, sAsg, sPar, sAug, sAsgN, sParN, sParM, sApp, sExt, sSetIx, sFrz, sRaise, sVar, sC, sOp, sUn, sCb, sCons, sConsTw, sNil, sTup, sLst, nLst, nOp, sNw, sTest, sAnd, sOr, sNot, sAndV, sOrV, sNotV, sIf, sChain, sIxOw, sLenOw, sSl, sSlOw, sPart, sNoPart, sCallP, sCallT, liftR, noEx, sThaw, sThawT, sIsi, sFor, nSeq, nRng1, nRng2, nLc, sTick, sYes, bindE, bindS, optE, asB, asI, G.plain, gN, gT, gTs, wipeD, Option.map, Option.bind, List.getElem?_cons_zero, List.getElem?_cons_succ, List.set_cons_zero, List.set_cons_succ, List.getElem?_nil, List.length_cons, List.length_nil, e5]
    have a3 : sTest (sOp dNe (sCallP g_common_divisor (sCons (sVar 0) sNil)) (sC (.int 1))) [.im (.tup (lD l)), .un] 0 = .ok (false, 0) := by
      simp only [sSeq, sNext, sIfS, sRet, sDrop, sAsg, sPar, sAug, sAsgN, sParN, sParM, sApp, sExt, sSetIx, sFrz, sRaise, sVar, sC, sOp, sUn, sCb, sCons, sConsTw, sNil, sTup, sLst, nLst, nOp, sNw, sTest, sAnd, sOr, sNot, sAndV, sOrV, sNotV, sIf, sChain, sIxOw, sLenOw, sSl, sSlOw, sPart, sNoPart, sCallP, sCallT, liftR, noEx, sThaw, sThawT, sIsi, sFor, nSeq, nRng1, nRng2, nLc, sTick, sYes, bindE, bindS, optE, asB, asI, G.plain, gN, gT, gTs, wipeD, Option.map, Option.bind, List.getElem?_cons_zero, List.getElem?_cons_succ, List.set_cons_zero, List.set_cons_succ, List.getElem?_nil, List.length_cons, List.length_nil, e6, e7]
    have a4 : (sOr (sNot (sTest (sCb bAll (sCons (sNw (nLc (nSeq (sVar 0)) (gN 1) sYes (sCallP g_is_integer (sCons (sVar 1) (sCons (sC (.int 1)) (sCons (sC (.int 99)) sNil)))) [1])) sNil)))) (sTest (sOp dNe (sCallP g_common_divisor (sCons (sVar 0) sNil)) (sC (.int 1))))) [.im (.tup (lD l)), .un] 0 = .ok (false, 0) := by
      unfold sOr sNot
      rw [a2]
      show sTest (sOp dNe (sCallP g_common_divisor (sCons (sVar 0) sNil)) (sC (.int 1))) [.im (.tup (lD l)), .un] 0 = _
      exact a3
    refine (sSeq_nx ((sIfS_f a1).trans rfl)).trans ((sSeq_nx ((sIfS_f a4).trans rfl)).trans ?_)
    simp only [sSeq, sNext, sIfS, sRet, sDrop, sAsg, sPar, sAug, sAsgN, sParN, sParM, sApp, sExt, sSetIx, sFrz, sRaise, sVar, sC, sOp, sUn, sCb, sCons, sConsTw, sNil, sTup, sLst, nLst, nOp, sNw, sTest, sAnd, sOr, sNot, sAndV, sOrV, sNotV, sIf, sChain, sIxOw, sLenOw, sSl, sSlOw, sPart, sNoPart, sCallP, sCallT, liftR, noEx, sThaw, sThawT, sIsi, sFor, nSeq, nRng1, nRng2, nLc, sTick, sYes, bindE, bindS, optE, asB, asI, G.plain, gN, gT, gTs, wipeD, Option.map, Option.bind, List.getElem?_cons_zero, List.getElem?_cons_succ, List.set_cons_zero, List.set_cons_succ, List.getElem?_nil, List.length_cons, List.length_nil, e8, e9]
  rw [e]
  rfl
theorem IsSg.is {l : List Nat} (h : IsSg l) : g_is_semigroup [.tup (lD l)] = .ok (.bl true) := by
  rw [isSg_eq h.len1 h.len2 h.lo h.hi h.gcd, decide_eq_true h.self]
theorem IsSg.check {l : List Nat} (h : IsSg l) : g_check_semigroup [.tup (lD l)] = .ok .non := by
  have e := h.is
  show endP (f_check_semigroup [.im (.tup (lD l))] 0) = _
  unfold f_check_semigroup
  simp only [sSeq, sNext, sIfS, sRet, sDrop, sAsg, sPar, sAug, sAsgN, sParN, sParM, sApp, sExt, sSetIx, sFrz, sRaise, sVar, sC, sOp, sUn, sCb, sCons, sConsTw, sNil, sTup, sLst, nLst, nOp, sNw, sTest, sAnd, sOr, sNot, sAndV, sOrV, sNotV, sIf, sChain, sIxOw, sLenOw, sSl, sSlOw, sPart, sNoPart, sCallP, sCallT, liftR, noEx, sThaw, sThawT, sIsi, sFor, nSeq, nRng1, nRng2, nLc, sTick, sYes, bindE, bindS, optE, asB, asI, G.plain, gN, gT, gTs, wipeD, Option.map, Option.bind, List.getElem?_cons_zero, List.getElem?_cons_succ, List.set_cons_zero, List.set_cons_succ, List.getElem?_nil, List.length_cons, List.length_nil, e, Bool.not_true]
  rfl
theorem isSg_of {l : List Nat} (hne : l ≠ []) (hp : ∀ x ∈ l, 0 < x) (hb : ∀ x ∈ l, x ≤ 99) (hg : gcdL l = 1) (hlen : (gens l).length ≤ 12) : IsSg (gens l) where
  len1 := by
    cases e : gens l with
    | nil =>
      refine absurd e (gens_ne ?_)
      cases l with
      | nil => exact absurd rfl hne
      | cons x r => exact ⟨x, List.mem_cons_self, hp x List.mem_cons_self⟩
    | cons x r =>
      rw [List.length_cons]
      omega
  len2 := hlen
  lo := fun x hx => hp x (gens_of hx)
  hi := fun x hx => hb x (gens_of hx)
  gcd := (gens_gcd l).trans hg
  self := gens_gens l
end Gp
end

section
set_option linter.all false
set_option backward.match.sparseCases false
set_option maxRecDepth 100000
namespace Gp
open G PySem Sg Classical
/-! ### draws -/
theorem dMul_sm {a b : Int} (h : okI 9223372036854775808 b = true) : dMul (.int a) (.int b) = some (.int (a * b)) := by
  show (if mulOk a b = true then some (D.int (a * b)) else none) = _
  rw [if_pos]
  unfold mulOk
  rw [h, Bool.or_true]
theorem dMul_sm' {a b : Int} (h : okI 9223372036854775808 a = true) : dMul (.int a) (.int b) = some (.int (a * b)) := by
  show (if mulOk a b = true then some (D.int (a * b)) else none) = _
  rw [if_pos]
  unfold mulOk
  rw [h, Bool.true_or]
theorem dFdiv_i {a b : Int} (h : posI b = true) (h2 : okI 1073741824 b = true) : dFdiv (.int a) (.int b) = some (.int (a / b)) := by
  show (if posI b = true ∧ okI 1073741824 b = true then some (D.int (a / b)) else none) = _
  rw [if_pos ⟨h, h2⟩]
theorem dMod_i {a b : Int} (h : posI b = true) : dMod (.int a) (.int b) = some (.int (a % b)) := by
  show (if posI b = true then some (D.int (a % b)) else none) = _
  rw [if_pos h]
theorem dAdd_i (a b : Int) : dAdd (.int a) (.int b) = some (.int (a + b)) := rfl
theorem scr_ix {ms : List Int} {k : Nat} (h : k < ms.length) : dIx (.scr ms) (nD k) = some (.int ms[k]) := by
  show (L2.atI ms (k : Int)).map D.int = _
  rw [atI_n h]
  rfl
theorem dEq_scr (ms : List Int) : dEq (.scr ms) (.lst []) = some (.bl (decide (ms = []))) := by
  unfold dEq
  rw [if_pos ⟨okD_of (show 1 ≤ 64 by omega), okD_of (show 1 + 0 ≤ 64 by omega)⟩]
  congr 2
  cases ms with
  | nil => rfl
  | cons a r => rfl
theorem cell_ok (ms : List Int) (k : Nat) (hk : k < 1000000) (hl : ms.length ≤ 63) : ∃ v : Int, g__law_cell_at [.scr ms, nD k] = .ok (.int v) := by
  have e1 : bLen [.scr ms] = some (nD ms.length) := rfl
  have e2 := dLt_n k ms.length
  have hb0 : (0 : Nat) < big := big_of (by omega)
  show ∃ v : Int, endP (f__law_cell_at [.im (.scr ms), .im (nD k), .un, .un] 0) = _
  by_cases h1 : k < ms.length
  · rw [decide_eq_true h1] at e2
    have e3 := scr_ix h1
    refine ⟨ms[k], ?_⟩
    unfold f__law_cell_at
    simp only [sSeq, sNext, sIfS, sRet, sDrop, sAsg, sPar, sAug, sAsgN, sParN, sParM, sApp, sExt, sSetIx, sFrz, sRaise, sVar, sC, sOp, sUn, sCb, sCons, sConsTw, sNil, sTup, sLst, nLst, nOp, sNw, sTest, sAnd, sOr, sNot, sAndV, sOrV, sNotV, sIf, sChain, sIxOw, sLenOw, sSl, sSlOw, sPart, sNoPart, sCallP, sCallT, liftR, noEx, sThaw, sThawT, sIsi, sFor, nSeq, nRng1, nRng2, nLc, sTick, sYes, bindE, bindS, optE, asB, asI, G.plain, gN, gT, gTs, wipeD, Option.map, Option.bind, List.getElem?_cons_zero, List.getElem?_cons_succ, List.set_cons_zero, List.set_cons_succ, List.getElem?_nil, List.length_cons, List.length_nil, e1, e2, e3, endP]
  · rw [decide_eq_false h1] at e2
    have e4 := dEq_scr ms
    by_cases h2 : ms = []
    · rw [decide_eq_true h2] at e4
      refine ⟨0, ?_⟩
      unfold f__law_cell_at
      simp only [sSeq, sNext, sIfS, sRet, sDrop, sAsg, sPar, sAug, sAsgN, sParN, sParM, sApp, sExt, sSetIx, sFrz, sRaise, sVar, sC, sOp, sUn, sCb, sCons, sConsTw, sNil, sTup, sLst, nLst, nOp, sNw, sTest, sAnd, sOr, sNot, sAndV, sOrV, sNotV, sIf, sChain, sIxOw, sLenOw, sSl, sSlOw, sPart, sNoPart, sCallP, sCallT, liftR, noEx, sThaw, sThawT, sIsi, sFor, nSeq, nRng1, nRng2, nLc, sTick, sYes, bindE, bindS, optE, asB, asI, G.plain, gN, gT, gTs, wipeD, Option.map, Option.bind, List.getElem?_cons_zero, List.getElem?_cons_succ, List.set_cons_zero, List.set_cons_succ, List.getElem?_nil, List.length_cons, List.length_nil, e1, e2, hb0, if_true, e4, endP]
    · rw [decide_eq_false h2] at e4
      have hpos : 0 < ms.length := List.length_pos_iff.mpr h2
      have e5 := dMod_n (a := k) hpos
      have hlt := Nat.mod_lt k hpos
      have e6 := scr_ix hlt
      have e7 := dFdiv_n (a := k) hpos (by omega)
      obtain ⟨q, hq, e8⟩ : ∃ q : Nat, q < 1000000 ∧ bMin [nD (k / ms.length), .int 60] = some (nD q) := by
        show ∃ q : Nat, q < 1000000 ∧ some (D.int (if (60 : Int) < ((k / ms.length : Nat) : Int) then 60 else ((k / ms.length : Nat) : Int))) = _
        split
        · exact ⟨60, by omega, rfl⟩
        · have := Nat.div_le_self k ms.length
          exact ⟨k / ms.length, by omega, rfl⟩
      have e9 := lim62_n hq
      obtain ⟨s', e, v, y3, es⟩ := loopS_inv0 (tg := gN 3) (f := sAsg 2 (sOp dFdiv (sVar 2) (sC (.int 1000003)))) (n := 0)
        (fun i s => ∃ (v : Int) (y3 : SV), s = [.im (.scr ms), .im (nD k), .im (.int v), y3]) (ds := rangeD 0 q) (s := [.im (.scr ms), .im (nD k), .im (.int ms[k % ms.length]), .un]) ⟨_, _, rfl⟩ fun i d s hi hI => by
          obtain ⟨v, y3, es⟩ := hI
          subst es
          have e1 := dFdiv_i (a := v) (b := 1000003) rfl rfl
          refine ⟨[.im (.scr ms), .im (nD k), .im (.int v), .im d], [.im (.scr ms), .im (nD k), .im (.int (v / 1000003)), .im d], rfl, ?_, _, _, rfl⟩
          simp only [sSeq, sNext, sIfS, sRet, sDrop, sAsg, sPar, sAug, sAsgN, sParN, sParM, sApp, sExt, sSetIx, sFrz, sRaise, sVar, sC, sOp, sUn, sCb, sCons, sConsTw, sNil, sTup, sLst, nLst, nOp, sNw, sTest, sAnd, sOr, sNot, sAndV, sOrV, sNotV, sIf, sChain, sIxOw, sLenOw, sSl, sSlOw, sPart, sNoPart, sCallP, sCallT, liftR, noEx, sThaw, sThawT, sIsi, sFor, nSeq, nRng1, nRng2, nLc, sTick, sYes, bindE, bindS, optE, asB, asI, G.plain, gN, gT, gTs, wipeD, Option.map, Option.bind, List.getElem?_cons_zero, List.getElem?_cons_succ, List.set_cons_zero, List.set_cons_succ, List.getElem?_nil, List.length_cons, List.length_nil, e1]
      have f1 := dMul_sm (a := ms[k % ms.length]) (b := 31) rfl
      have f2 := dMul_sm (a := v) (b := 101) rfl
      refine ⟨ms[k % ms.length] * 31 + (k : Int) + v * 101, ?_⟩
      unfold f__law_cell_at
      simp only [sSeq, sNext, sIfS, sRet, sDrop, sAsg, sPar, sAug, sAsgN, sParN, sParM, sApp, sExt, sSetIx, sFrz, sRaise, sVar, sC, sOp, sUn, sCb, sCons, sConsTw, sNil, sTup, sLst, nLst, nOp, sNw, sTest, sAnd, sOr, sNot, sAndV, sOrV, sNotV, sIf, sChain, sIxOw, sLenOw, sSl, sSlOw, sPart, sNoPart, sCallP, sCallT, liftR, noEx, sThaw, sThawT, sIsi, sFor, nSeq, nRng1, nRng2, nLc, sTick, sYes, bindE, bindS, optE, asB, asI, G.plain, gN, gT, gTs, wipeD, Option.map, Option.bind, List.getElem?_cons_zero, List.getElem?_cons_succ, List.set_cons_zero, List.set_cons_succ, List.getElem?_nil, List.length_cons, List.length_nil, e1, e2, hb0, if_true, e4, e5, e6, e7, e8, e9, Int.toNat_natCast]
      rw [e, es]
      simp only [sSeq, sNext, sIfS, sRet, sDrop, sAsg, sPar, sAug, sAsgN, sParN, sParM, sApp, sExt, sSetIx, sFrz, sRaise, sVar, sC, sOp, sUn, sCb, sCons, sConsTw, sNil, sTup, sLst, nLst, nOp, sNw, sTest, sAnd, sOr, sNot, sAndV, sOrV, sNotV, sIf, sChain, sIxOw, sLenOw, sSl, sSlOw, sPart, sNoPart, sCallP, sCallT, liftR, noEx, sThaw, sThawT, sIsi, sFor, nSeq, nRng1, nRng2, nLc, sTick, sYes, bindE, bindS, optE, asB, asI, G.plain, gN, gT, gTs, wipeD, Option.map, Option.bind, List.getElem?_cons_zero, List.getElem?_cons_succ, List.set_cons_zero, List.set_cons_succ, List.getElem?_nil, List.length_cons, List.length_nil, e1, e5, e6, f1, f2, dAdd_i, endP]
theorem mixed_ok (ms : List Int) (k many : Nat) (hk : k < 1000000) (hl : ms.length ≤ 63) (hm : 0 < many) : ∃ v : Nat, v < many ∧ g__law_mixed [.scr ms, nD k, nD many] = .ok (nD v) := by
  obtain ⟨v, hv⟩ := cell_ok ms k hk hl
  have f1 := dMul_sm (a := v) (b := 1103515245) rfl
  have f2 : dMul (.int 7919) (nD k) = some (.int (7919 * (k : Int))) := dMul_sm' rfl
  have f3 := dMod_i (a := v * 1103515245 + 7919 * (k : Int) + 12345) (b := 2147483647) rfl
  generalize hw : (v * 1103515245 + 7919 * (k : Int) + 12345) % 2147483647 = w at f3
  have hw1 : 0 ≤ w := by rw [← hw]; exact Int.emod_nonneg _ (by decide)
  have hw2 : w < 2147483647 := by rw [← hw]; exact Int.emod_lt_of_pos _ (by decide)
  have f4 : dPow (.int w) (.int 5) = some (.int (w ^ 5)) := by
    show (if okI 9223372036854775808 w = true ∧ okI 1000 5 = true ∧ posI 5 = true then some (D.int (w ^ (5 : Int).toNat)) else none) = _
    rw [if_pos ⟨okI_of (by omega) (by omega), rfl, rfl⟩]
    rfl
  have f5 := dMod_i (a := w ^ 5) (b := 2147483647) rfl
  have f6 := dMod_i (a := w ^ 5 % 2147483647) (b := 999983) rfl
  have f7 : dMod (.int (w ^ 5 % 2147483647 % 999983)) (nD many) = some (.int (w ^ 5 % 2147483647 % 999983 % (many : Int))) := dMod_i (posI_of (by omega))
  have g1 : 0 ≤ w ^ 5 % 2147483647 % 999983 % (many : Int) := Int.emod_nonneg _ (by omega)
  have g2 : w ^ 5 % 2147483647 % 999983 % (many : Int) < many := Int.emod_lt_of_pos _ (by omega)
  generalize w ^ 5 % 2147483647 % 999983 % (many : Int) = z at f7 g1 g2
  refine ⟨z.toNat, by omega, ?_⟩
  have ez : nD z.toNat = .int z := by
    show D.int ((z.toNat : Nat) : Int) = _
    rw [Int.toNat_of_nonneg g1]
  rw [ez]
  show endP (f__law_mixed [.im (.scr ms), .im (nD k), .im (nD many), .un] 0) = _
  unfold f__law_mixed
  simp only [sSeq, sNext, sIfS, sRet, sDrop, sAsg, sPar, sAug, sAsgN, sParN, sParM, sApp, sExt, sSetIx, sFrz, sRaise, sVar, sC, sOp, sUn, sCb, sCons, sConsTw, sNil, sTup, sLst, nLst, nOp, sNw, sTest, sAnd, sOr, sNot, sAndV, sOrV, sNotV, sIf, sChain, sIxOw, sLenOw, sSl, sSlOw, sPart, sNoPart, sCallP, sCallT, liftR, noEx, sThaw, sThawT, sIsi, sFor, nSeq, nRng1, nRng2, nLc, sTick, sYes, bindE, bindS, optE, asB, asI, G.plain, gN, gT, gTs, wipeD, Option.map, Option.bind, List.getElem?_cons_zero, List.getElem?_cons_succ, List.set_cons_zero, List.set_cons_succ, List.getElem?_nil, List.length_cons, List.length_nil, hv, f1, f2, dAdd_i, f3, f4, f5, f6, f7, endP]
theorem draw_ok (ms : List Int) (n many : Nat) (hn : n < 999999) (hl : ms.length ≤ 63) (hm : 0 < many) : ∃ v : Nat, v < many ∧ g__law_draw [.d (.scr ms), .tw, .d (nD many)] n = .ok (nD v, n + 1) := by
  obtain ⟨v, hv, e⟩ := mixed_ok ms (n + 1) many (by omega) hl hm
  refine ⟨v, hv, ?_⟩
  show endT (f__law_draw [.im (.scr ms), .tw, .im (nD many)] n) = _
  have hb : n < big := big_of (by omega)
  unfold f__law_draw
  simp only [sSeq, sNext, sIfS, sRet, sDrop, sAsg, sPar, sAug, sAsgN, sParN, sParM, sApp, sExt, sSetIx, sFrz, sRaise, sVar, sC, sOp, sUn, sCb, sCons, sConsTw, sNil, sTup, sLst, nLst, nOp, sNw, sTest, sAnd, sOr, sNot, sAndV, sOrV, sNotV, sIf, sChain, sIxOw, sLenOw, sSl, sSlOw, sPart, sNoPart, sCallP, sCallT, liftR, noEx, sThaw, sThawT, sIsi, sFor, nSeq, nRng1, nRng2, nLc, sTick, sYes, bindE, bindS, optE, asB, asI, G.plain, gN, gT, gTs, wipeD, Option.map, Option.bind, List.getElem?_cons_zero, List.getElem?_cons_succ, List.set_cons_zero, List.set_cons_succ, List.getElem?_nil, List.length_cons, List.length_nil, hb, if_true, e, endT]
end Gp
end

section
set_option linter.all false
set_option backward.match.sparseCases false
set_option maxRecDepth 100000
namespace Gp
open G PySem Sg Classical
theorem sCallT_eq {g : List AV → Nat → R (D × Nat)} {fr : SA} {s : SD} {n n1 n2 : Nat} {xs : List AV} {d : D} (h1 : fr s n = .ok (xs, n1)) (h2 : (xs.any fun x => match x with | .tw => true | _ => false) = true) (h3 : g xs n1 = .ok (d, n2)) : sCallT g fr s n = .ok (d, n2) := by
  unfold sCallT
  rw [h1]
  show (if (xs.any fun x => match x with | .tw => true | _ => false) = true then noEx (g xs n1) else .no) = _
  rw [if_pos h2, h3]
  rfl
/-! ### _law_gcd -/
theorem while_gcd {c : D} (n : Nat) : ∀ (k a b : Nat), b < k → sWhile (sTest (sOp dGt (sVar 1) (sC (.int 0)))) (sPar 2 1 (sCons (sVar 1) (sCons (sOp dMod (sVar 2) (sVar 1)) sNil))) k [.im c, .im (nD b), .im (nD a)] n = .nx [.im c, .im (nD 0), .im (nD (Nat.gcd a b))] n
  | 0, _, _, h => by omega
  | k + 1, a, b, h => by
    have t1 : (sTest (sOp dGt (sVar 1) (sC (.int 0)))) [.im c, .im (nD b), .im (nD a)] n = .ok (decide (0 < b), n) := by
      have := dGt_n b 0
      simp only [sSeq, sNext, sIfS, sRet, sDrop, sAsg, sPar, sAug, sAsgN, sParN, sParM, sApp, sExt, sSetIx, sFrz, sRaise, sVar, sC, sOp, sUn, sCb, sCons, sConsTw, sNil, sTup, sLst, nLst, nOp, sNw, sTest, sAnd, sOr, sNot, sAndV, sOrV, sNotV, sIf, sChain, sIxOw, sLenOw, sSl, sSlOw, sPart, sNoPart, sCallP, sCallT, liftR, noEx, sThaw, sThawT, sIsi, sFor, nSeq, nRng1, nRng2, nLc, sTick, sYes, bindE, bindS, optE, asB, asI, G.plain, gN, gT, gTs, wipeD, Option.map, Option.bind, List.getElem?_cons_zero, List.getElem?_cons_succ, List.set_cons_zero, List.set_cons_succ, List.getElem?_nil, List.length_cons, List.length_nil, show dGt (D.int b) (D.int 0) = _ from this]
    by_cases hb : b = 0
    · subst hb
      rw [Nat.gcd_zero_right]
      exact sWhile_stop t1
    · have hpos : 0 < b := by omega
      rw [decide_eq_true hpos] at t1
      have t2 : (sPar 2 1 (sCons (sVar 1) (sCons (sOp dMod (sVar 2) (sVar 1)) sNil))) [.im c, .im (nD b), .im (nD a)] n = .nx [.im c, .im (nD (a % b)), .im (nD b)] n := by
        simp only [sSeq, sNext, sIfS, sRet, sDrop, sAsg, sPar, sAug, sAsgN, sParN, sParM, sApp, sExt, sSetIx, sFrz, sRaise, sVar, sC, sOp, sUn, sCb, sCons, sConsTw, sNil, sTup, sLst, nLst, nOp, sNw, sTest, sAnd, sOr, sNot, sAndV, sOrV, sNotV, sIf, sChain, sIxOw, sLenOw, sSl, sSlOw, sPart, sNoPart, sCallP, sCallT, liftR, noEx, sThaw, sThawT, sIsi, sFor, nSeq, nRng1, nRng2, nLc, sTick, sYes, bindE, bindS, optE, asB, asI, G.plain, gN, gT, gTs, wipeD, Option.map, Option.bind, List.getElem?_cons_zero, List.getElem?_cons_succ, List.set_cons_zero, List.set_cons_succ, List.getElem?_nil, List.length_cons, List.length_nil, dMod_n hpos]
      rw [sWhile_go t1 t2, while_gcd n k b (a % b) (by have := Nat.mod_lt a hpos; omega), Nat.gcd_comm a b, Nat.gcd_rec b a, Nat.gcd_comm]
theorem lawGcd_eq {l : List Nat} {c : D} (hc : c = .lst (lD l) ∨ c = .tup (lD l)) (hl : ∀ x ∈ l, x < 1000000) : g__law_gcd [c] = .ok (nD (gcdL l)) := by
  have hs : seqOf c = some (lD l) := by
    rcases hc with rfl | rfl <;> rfl
  obtain ⟨s', e, y2, es⟩ := loopS_inv0 (tg := gN 2) (f := sSeq (sWhile (sTest (sOp dGt (sVar 1) (sC (.int 0)))) (sPar 2 1 (sCons (sVar 1) (sCons (sOp dMod (sVar 2) (sVar 1)) sNil))) FUEL) (sAsg 1 (sVar 2))) (n := 0)
    (fun i s => ∃ y2, s = [.im c, .im (nD (gcdF (l.take i))), y2]) (ds := lD l) (s := [.im c, .im (nD 0), .un]) ⟨.un, rfl⟩ fun i d s hi hI => by
      obtain ⟨x, hx, ed⟩ := lD_get hi
      obtain ⟨y2, es⟩ := hI
      subst ed es
      have hb : gcdF (l.take i) < 1000000 := gcdF_le _ _ (fun y hy => hl y (List.mem_of_mem_take hy)) (by decide)
      have e1 : gcdF (l.take (i + 1)) = Nat.gcd x (gcdF (l.take i)) := foldl_take _ _ _ _ _ hx
      refine ⟨[.im c, .im (nD (gcdF (l.take i))), .im (nD x)], _, rfl, (sSeq_nx (while_gcd 0 FUEL x _ hb)).trans rfl, .im (nD (Nat.gcd x (gcdF (l.take i)))), ?_⟩
      rw [e1]
      rfl
  rw [List.length_map, List.take_length] at es
  have a2 := (sFor_eq (it := nSeq (sVar 0)) (tg := gN 2) (s := [.im c, .im (nD 0), .un]) (ds := lD l) (n := 0) (n1 := 0) (by simp only [sSeq, sNext, sIfS, sRet, sDrop, sAsg, sPar, sAug, sAsgN, sParN, sParM, sApp, sExt, sSetIx, sFrz, sRaise, sVar, sC, sOp, sUn, sCb, sCons, sConsTw, sNil, sTup, sLst, nLst, nOp, sNw, sTest, sAnd, sOr, sNot, sAndV, sOrV, sNotV, sIf, sChain, sIxOw, sLenOw, sSl, sSlOw, sPart, sNoPart, sCallP, sCallT, liftR, noEx, sThaw, sThawT, sIsi, sFor, nSeq, nRng1, nRng2, nLc, sTick, sYes, bindE, bindS, optE, asB, asI, G.plain, gN, gT, gTs, wipeD, Option.map, Option.bind, List.getElem?_cons_zero, List.getElem?_cons_succ, List.set_cons_zero, List.set_cons_succ, List.getElem?_nil, List.length_cons, List.length_nil, hs])).trans e
  have e3 : f__law_gcd [.im c, .un, .un] 0 = .rt (nD (gcdF l)) 0 := (sSeq_nx rfl).trans ((sSeq_nx a2).trans (by rw [es]; rfl))
  show endP (f__law_gcd [.im c, .un, .un] 0) = _
  rw [e3, gcdF_eq]
  rfl
/-! ### _law_numbers -/
abbrev nuE : SE := sOp dAdd (sC (.int 1)) (sCallT g__law_draw (sCons (sVar 0) (sConsTw 1 (sCons (sVar 2) sNil))))
theorem nu_el {ms : List Int} {top n : Nat} {x3 x4 x5 : SV} (hl : ms.length ≤ 63) (hn : n < 999999) (ht : 0 < top) : ∃ v : Nat, 1 ≤ v ∧ v ≤ top ∧ nuE [.im (.scr ms), .tw, .im (nD top), x3, x4, x5] n = .ok (nD v, n + 1) := by
  obtain ⟨v, hv, e⟩ := draw_ok ms n top hn hl ht
  have e1 := dAdd_n 1 v
  refine ⟨1 + v, by omega, by omega, ?_⟩
  have e2 : sCallT g__law_draw (sCons (sVar 0) (sConsTw 1 (sCons (sVar 2) sNil))) [.im (.scr ms), .tw, .im (nD top), x3, x4, x5] n = .ok (nD v, n + 1) := sCallT_eq (xs := [.d (.scr ms), .tw, .d (nD top)]) rfl rfl e
  exact sOp_eq rfl e2 e1
theorem nu_comp {ms : List Int} {top : Nat} {x3 x4 : SV} (hl : ms.length ≤ 63) (ht : 0 < top) : ∀ (ds : List D) (n : Nat), n + ds.length < 999999 → ∃ l : List Nat, l.length = ds.length ∧ (∀ x ∈ l, 1 ≤ x ∧ x ≤ top) ∧ compR (gN 5) sYes nuE [.im (.scr ms), .tw, .im (nD top), x3, x4, .un] ds n = .ok (lD l, n + ds.length)
  | [], n, _ => ⟨[], rfl, fun x hx => (by cases hx), rfl⟩
  | d :: ds, n, hn => by
    rw [List.length_cons] at hn
    obtain ⟨v, h1, h2, e⟩ := nu_el (x3 := x3) (x4 := x4) (x5 := .im d) (top := top) hl (show n < 999999 by omega) ht
    obtain ⟨l, e1, e2, e3⟩ := nu_comp (x3 := x3) (x4 := x4) hl ht ds (n + 1) (by omega)
    refine ⟨v :: l, by rw [List.length_cons, List.length_cons, e1], fun x hx => ?_, ?_⟩
    · rcases List.mem_cons.mp hx with rfl | hx
      · exact ⟨h1, h2⟩
      · exact e2 x hx
    · show bindE (noEx (nuE [.im (.scr ms), .tw, .im (nD top), x3, x4, .im d] n)) (fun y n2 => bindE (compR (gN 5) sYes nuE [.im (.scr ms), .tw, .im (nD top), x3, x4, .un] ds n2) fun ys n3 => .ok (y :: ys, n3)) = _
      rw [e]
      show bindE (compR (gN 5) sYes nuE [.im (.scr ms), .tw, .im (nD top), x3, x4, .un] ds (n + 1)) (fun ys n3 => .ok (nD v :: ys, n3)) = _
      rw [e3, List.length_cons, show n + (ds.length + 1) = n + 1 + ds.length by omega]
      rfl
theorem gcdL_app1 : ∀ l : List Nat, gcdL (l ++ [1]) = 1 := fun l => Nat.dvd_one.mp (gcdL_dvd _ _ (List.mem_append_right _ List.mem_cons_self))
abbrev nuT : ST := sThawT 4 (sTest (sOp dNe (sCallP g__law_gcd (sCons (sVar 4) sNil)) (sC (.int 1))))
abbrev nuB : SS := sApp 4 (sIf (sTest (sOp dLt (sLenOw 4) (sC (.int 20)))) nuE (sC (.int 1)))
theorem nu_while {ms : List Int} {top : Nat} {x3 x5 : SV} (hl : ms.length ≤ 63) (ht : 0 < top) (htb : top < 1000000) : ∀ (k fuel : Nat) (l : List Nat) (n : Nat), k < fuel → l.length ≤ 21 → l.length + k = 22 → (l.length = 21 → gcdL l = 1) → l ≠ [] → (∀ x ∈ l, 1 ≤ x ∧ x ≤ top) → n + k < 999999 →
    ∃ (l' : List Nat) (n' : Nat), l' ≠ [] ∧ l'.length ≤ 21 ∧ (∀ x ∈ l', 1 ≤ x ∧ x ≤ top) ∧ gcdL l' = 1 ∧ n' ≤ n + k ∧ sWhile nuT nuB fuel [.im (.scr ms), .tw, .im (nD top), x3, .ow (lD l), x5] n = .nx [.im (.scr ms), .tw, .im (nD top), x3, .ow (lD l'), x5] n'
  | k, 0, _, _, h, _, _, _, _, _, _ => by omega
  | 0, fuel + 1, l, n, _, h0, h2, _, _, _, _ => by omega
  | k + 1, fuel + 1, l, n, h1, h0, h2, h3, h4, h5, h6 => by
    have e1 : g__law_gcd [.lst (lD l)] = _ := lawGcd_eq (.inl rfl) fun x hx => by have := h5 x hx; omega
    have e2 := dNe_n (gcdL l) 1
    have t1 : nuT [.im (.scr ms), .tw, .im (nD top), x3, .ow (lD l), x5] n = .ok (decide (gcdL l ≠ 1), n) := by
      simp only [sSeq, sNext, sIfS, sRet, sDrop, sAsg, sPar, sAug, sAsgN, sParN, sParM, sApp, sExt, sSetIx, sFrz, sRaise, sVar, sC, sOp, sUn, sCb, sCons, sConsTw, sNil, sTup, sLst, nLst, nOp, sNw, sTest, sAnd, sOr, sNot, sAndV, sOrV, sNotV, sIf, sChain, sIxOw, sLenOw, sSl, sSlOw, sPart, sNoPart, sCallP, sCallT, liftR, noEx, sThaw, sThawT, sIsi, sFor, nSeq, nRng1, nRng2, nLc, sTick, sYes, bindE, bindS, optE, asB, asI, G.plain, gN, gT, gTs, wipeD, Option.map, Option.bind, List.getElem?_cons_zero, List.getElem?_cons_succ, List.set_cons_zero, List.set_cons_succ, List.getElem?_nil, List.length_cons, List.length_nil, e1, show dNe (nD (gcdL l)) (.int 1) = _ from e2]
    by_cases hg : gcdL l = 1
    · rw [decide_eq_false (by rw [Classical.not_not]; exact hg)] at t1
      exact ⟨l, n, h4, by omega, h5, hg, by omega, sWhile_stop t1⟩
    · rw [decide_eq_true hg] at t1
      have hlen : l.length < 21 := by
        rcases Nat.lt_or_ge l.length 21 with h | h
        · exact h
        · exact absurd (h3 (by omega)) hg
      have e3 : dLt (.int (lD l).length) (.int 20) = some (.bl (decide (l.length < 20))) := by
        rw [List.length_map]
        exact dLt_n l.length 20
      obtain ⟨v, n2, hv1, hv2, hv3, hn2, e4⟩ : ∃ v n2 : Nat, 1 ≤ v ∧ v ≤ top ∧ (l.length = 20 → v = 1) ∧ n2 ≤ n + 1 ∧ sIf (sTest (sOp dLt (sLenOw 4) (sC (.int 20)))) nuE (sC (.int 1)) [.im (.scr ms), .tw, .im (nD top), x3, .ow (lD l), x5] n = .ok (nD v, n2) := by
        by_cases h20 : l.length < 20
        · rw [decide_eq_true h20] at e3
          obtain ⟨v, g1, g2, e⟩ := nu_el (x3 := x3) (x4 := .ow (lD l)) (x5 := x5) (top := top) hl (show n < 999999 by omega) ht
          refine ⟨v, n + 1, g1, g2, fun h => by omega, by omega, ?_⟩
          rw [← e]
          simp only [sIf, sTest, sOp, sLenOw, sC, bindE, optE, asB, List.getElem?_cons_zero, List.getElem?_cons_succ, e3]
        · rw [decide_eq_false h20] at e3
          refine ⟨1, n, by omega, by omega, fun _ => rfl, by omega, ?_⟩
          simp only [sSeq, sNext, sIfS, sRet, sDrop, sAsg, sPar, sAug, sAsgN, sParN, sParM, sApp, sExt, sSetIx, sFrz, sRaise, sVar, sC, sOp, sUn, sCb, sCons, sConsTw, sNil, sTup, sLst, nLst, nOp, sNw, sTest, sAnd, sOr, sNot, sAndV, sOrV, sNotV, sIf, sChain, sIxOw, sLenOw, sSl, sSlOw, sPart, sNoPart, sCallP, sCallT, liftR, noEx, sThaw, sThawT, sIsi, sFor, nSeq, nRng1, nRng2, nLc, sTick, sYes, bindE, bindS, optE, asB, asI, G.plain, gN, gT, gTs, wipeD, Option.map, Option.bind, List.getElem?_cons_zero, List.getElem?_cons_succ, List.set_cons_zero, List.set_cons_succ, List.getElem?_nil, List.length_cons, List.length_nil, e3]
          rfl
      have b1 : nuB [.im (.scr ms), .tw, .im (nD top), x3, .ow (lD l), x5] n = .nx [.im (.scr ms), .tw, .im (nD top), x3, .ow (lD (l ++ [v])), x5] n2 := by
        rw [lD_append]
        exact sApp_eq (ds := lD l) rfl e4 (by rw [List.length_map]; omega)
      have hla : (l ++ [v]).length = l.length + 1 := by rw [List.length_append]; rfl
      obtain ⟨l', n', q1, q2, q3, q4, q5, q6⟩ := nu_while (x3 := x3) (x5 := x5) hl ht htb k fuel (l ++ [v]) n2 (by omega) (by omega) (by omega) (fun h => by
        rw [hv3 (by omega)]
        exact gcdL_app1 l) (by simp) (fun x hx => by
          rcases List.mem_append.mp hx with hx | hx
          · exact h5 x hx
          · rw [List.mem_singleton.mp hx]
            exact ⟨hv1, hv2⟩) (by omega)
      exact ⟨l', n', q1, q2, q3, q4, by omega, (sWhile_go t1 b1).trans q6⟩
end Gp
end

section
set_option linter.all false
set_option backward.match.sparseCases false
set_option maxRecDepth 100000
namespace Gp
open G PySem Sg Classical
/-- some numbers that were drawn, without a common divisor -/
theorem numbers_ok {ms : List Int} {top most n : Nat} (hl : ms.length ≤ 63) (ht : 0 < top) (htb : top < 1000000) (hm : 0 < most) (hmb : most ≤ 20) (hn : n < 900000) :
    ∃ (l : List Nat) (n' : Nat), l ≠ [] ∧ l.length ≤ 21 ∧ (∀ x ∈ l, 1 ≤ x ∧ x ≤ top) ∧ gcdL l = 1 ∧ n' ≤ n + 50 ∧ g__law_numbers [.d (.scr ms), .tw, .d (nD top), .d (nD most)] n = .ok (.lst (lD l), n') := by
  obtain ⟨v, hv, e⟩ := draw_ok ms n most (by omega) hl hm
  have e1 := dAdd_n 1 v
  have e2 := lim62_n (n := 1 + v) (by omega)
  have a1 : nRng1 (sCons (sOp dAdd (sC (.int 1)) (sCallT g__law_draw (sCons (sVar 0) (sConsTw 1 (sCons (sVar 3) sNil))))) sNil) [.im (.scr ms), .tw, .im (nD top), .im (nD most), .un, .un] n = .ok (rangeD 0 (1 + v), n + 1) := by
    have c1 : sCallT g__law_draw (sCons (sVar 0) (sConsTw 1 (sCons (sVar 3) sNil))) [.im (.scr ms), .tw, .im (nD top), .im (nD most), .un, .un] n = .ok (nD v, n + 1) := sCallT_eq (xs := [.d (.scr ms), .tw, .d (nD most)]) rfl rfl e
    have c2 := sCons_eq (fr := sNil) (n2 := n + 1) (xs := []) (sOp_eq (fa := sC (.int 1)) (n := n) (n1 := n) rfl c1 e1) rfl
    unfold nRng1
    rw [c2]
    simp only [sSeq, sNext, sIfS, sRet, sDrop, sAsg, sPar, sAug, sAsgN, sParN, sParM, sApp, sExt, sSetIx, sFrz, sRaise, sVar, sC, sOp, sUn, sCb, sCons, sConsTw, sNil, sTup, sLst, nLst, nOp, sNw, sTest, sAnd, sOr, sNot, sAndV, sOrV, sNotV, sIf, sChain, sIxOw, sLenOw, sSl, sSlOw, sPart, sNoPart, sCallP, sCallT, liftR, noEx, sThaw, sThawT, sIsi, sFor, nSeq, nRng1, nRng2, nLc, sTick, sYes, bindE, bindS, optE, asB, asI, G.plain, gN, gT, gTs, wipeD, Option.map, Option.bind, List.getElem?_cons_zero, List.getElem?_cons_succ, List.set_cons_zero, List.set_cons_succ, List.getElem?_nil, List.length_cons, List.length_nil, e2, if_true, Int.toNat_natCast]
  obtain ⟨l, q1, q2, q3⟩ := nu_comp (ms := ms) (top := top) (x3 := .im (nD most)) (x4 := .un) hl ht (rangeD 0 (1 + v)) (n + 1) (by rw [rangeD_len]; omega)
  rw [rangeD_len] at q1 q3
  have hlne : l ≠ [] := fun z => by
    rw [z, List.length_nil] at q1
    omega
  obtain ⟨l', n', r1, r2, r3, r4, r5, r6⟩ := nu_while (x3 := .im (nD most)) (x5 := .un) hl ht htb (22 - l.length) FUEL l (n + 1 + (1 + v)) (by show _ < 1000000; omega) (by omega) (by omega) (fun h => by omega) hlne q2 (by omega)
  refine ⟨l', n', r1, r2, r3, r4, by omega, ?_⟩
  show endT (f__law_numbers [.im (.scr ms), .tw, .im (nD top), .im (nD most), .un, .un] n) = _
  have a2 : sAsgN 4 (nLc (nRng1 (sCons (sOp dAdd (sC (.int 1)) (sCallT g__law_draw (sCons (sVar 0) (sConsTw 1 (sCons (sVar 3) sNil))))) sNil)) (gN 5) sYes nuE [5]) [.im (.scr ms), .tw, .im (nD top), .im (nD most), .un, .un] n = .nx [.im (.scr ms), .tw, .im (nD top), .im (nD most), .ow (lD l), .un] (n + 1 + (1 + v)) := by
    have c3 := (nLc_eq (tg := gN 5) (ft := sYes) (fe := nuE) (vs := [5]) a1 (by rw [rangeD_len]; omega)).trans q3
    unfold sAsgN
    rw [c3]
    rfl
  have e5 : f__law_numbers [.im (.scr ms), .tw, .im (nD top), .im (nD most), .un, .un] n = .rt (.lst (lD l')) n' := (sSeq_nx a2).trans ((sSeq_nx r6).trans rfl)
  rw [e5]
  rfl
end Gp
end

section
set_option linter.all false
set_option backward.match.sparseCases false
set_option maxRecDepth 100000
namespace Sg
open Classical
/-! ### the least element for each remainder -/
def lv (l : List Nat) (m r : Nat) : Nat := ((leastBy l m)[r]?.getD none).getD 0
def lvs (l : List Nat) (m : Nat) : List Nat := (List.range m).map (lv l m)
/-- all numbers of l are above 0, and they have no common divisor -/
structure Nice (l : List Nat) : Prop where
  pos : ∀ x ∈ l, 0 < x
  gcd : gcdL l = 1
theorem Nice.ne {l : List Nat} (h : Nice l) : l ≠ [] := fun e => by
  have := h.gcd
  rw [e] at this
  exact absurd this (by decide)
section
variable {l : List Nat} {m : Nat}
theorem lv_at (h : Nice l) (hm : 0 < m) {r : Nat} (hr : r < m) : (leastBy l m)[r]? = some (some (lv l m r)) := by
  obtain ⟨v, e, _⟩ := (leastBy_exact l hm).full hm h.gcd r hr
  unfold lv
  rw [e]
  rfl
theorem lv_sum (h : Nice l) (hm : 0 < m) {r : Nat} (hr : r < m) : Sum l (lv l m r) := ((leastBy_exact l hm).sound _ _ (lv_at h hm hr)).1
theorem lv_mod (h : Nice l) (hm : 0 < m) {r : Nat} (hr : r < m) : lv l m r % m = r := ((leastBy_exact l hm).sound _ _ (lv_at h hm hr)).2
theorem lv_le (h : Nice l) (hm : 0 < m) {n : Nat} (hn : Sum l n) : lv l m (n % m) ≤ n := by
  obtain ⟨v, e, h2⟩ := (leastBy_exact l hm).least n hn
  rw [lv_at h hm (Nat.mod_lt _ hm)] at e
  injection e with e
  injection e with e
  omega
theorem lv_bnd (h : Nice l) (hm : 0 < m) {r : Nat} (hr : r < m) : lv l m r ≤ m * l.sum := by
  obtain ⟨v, e, hv⟩ := (leastBy_exact l hm).full hm h.gcd r hr
  rw [lv_at h hm hr] at e
  injection e with e
  injection e with e
  omega
theorem leastBy_lvs (h : Nice l) (hm : 0 < m) : leastBy l m = (lvs l m).map some := by
  apply List.ext_getElem?
  intro i
  unfold lvs
  rw [List.map_map, List.getElem?_map]
  by_cases hi : i < m
  · rw [lv_at h hm hi, List.getElem?_range hi]
    rfl
  · rw [List.getElem?_eq_none (by rw [(leastBy_exact l hm).len]; omega), List.getElem?_eq_none (by rw [List.length_range]; omega)]
    rfl
theorem lvs_len : (lvs l m).length = m := by rw [lvs, List.length_map, List.length_range]
theorem lvs_get {r : Nat} (hr : r < m) : (lvs l m)[r]? = some (lv l m r) := by
  rw [lvs, List.getElem?_map, List.getElem?_range hr]
  rfl
theorem add_mul_sum (h : Sum l m) {a : Nat} (ha : Sum l a) (k : Nat) : Sum l (a + k * m) := ha.plus (h.mul k)
theorem mod_le_split {a n m : Nat} (h : a % m = n % m) (hle : a ≤ n) : ∃ k, n = a + k * m := by
  have h4 : m ∣ n - a := Nat.dvd_of_mod_eq_zero (Nat.sub_mod_eq_zero_of_mod_eq h.symm)
  obtain ⟨k, hk⟩ := h4
  exact ⟨k, by rw [Nat.mul_comm]; omega⟩
theorem sum_lv (h : Nice l) (hm : 0 < m) (he : Sum l m) (n : Nat) : Sum l n ↔ lv l m (n % m) ≤ n := by
  constructor
  · exact lv_le h hm
  · intro hle
    obtain ⟨k, e⟩ := mod_le_split (lv_mod h hm (Nat.mod_lt n hm)) hle
    rw [e]
    exact add_mul_sum he (lv_sum h hm (Nat.mod_lt n hm)) k
/-- how many gaps have the remainder r -/
def kv (l : List Nat) (m r : Nat) : Nat := lv l m r / m
theorem lv_kv (h : Nice l) (hm : 0 < m) {r : Nat} (hr : r < m) : lv l m r = r + kv l m r * m := by
  have h1 := Nat.mod_add_div (lv l m r) m
  rw [lv_mod h hm hr] at h1
  unfold kv
  rw [Nat.mul_comm]
  exact h1.symm
/-- the gaps with the remainder r -/
def gapR (l : List Nat) (m r : Nat) : List Nat := (List.range (kv l m r)).map fun i => r + i * m
def gapF (l : List Nat) (m : Nat) : List Nat := (List.range m).flatMap (gapR l m)
theorem gapR_mod {r x : Nat} (hr : r < m) (h : x ∈ gapR l m r) : x % m = r := by
  obtain ⟨i, _, rfl⟩ := List.mem_map.mp h
  rw [Nat.add_mul_mod_self_right, Nat.mod_eq_of_lt hr]
theorem mem_gapR (h : Nice l) (hm : 0 < m) {r x : Nat} (hr : r < m) : x ∈ gapR l m r ↔ x % m = r ∧ x < lv l m r := by
  constructor
  · intro hx
    refine ⟨gapR_mod hr hx, ?_⟩
    obtain ⟨i, hi, rfl⟩ := List.mem_map.mp hx
    rw [List.mem_range] at hi
    rw [lv_kv h hm hr]
    have := Nat.mul_lt_mul_of_pos_right hi hm
    omega
  · rintro ⟨h1, h2⟩
    refine List.mem_map.mpr ⟨x / m, List.mem_range.mpr ?_, ?_⟩
    · rw [lv_kv h hm hr] at h2
      have h3 := Nat.mod_add_div x m
      rw [h1, Nat.mul_comm] at h3
      have h4 : x / m * m < kv l m r * m := by omega
      exact Nat.lt_of_mul_lt_mul_right h4
    · have h3 := Nat.mod_add_div x m
      rw [h1, Nat.mul_comm] at h3
      exact h3
theorem mem_gapF (h : Nice l) (hm : 0 < m) (he : Sum l m) (x : Nat) : x ∈ gapF l m ↔ ¬ Sum l x := by
  unfold gapF
  rw [List.mem_flatMap, sum_lv h hm he]
  constructor
  · rintro ⟨r, hr, hx⟩
    rw [List.mem_range] at hr
    obtain ⟨h1, h2⟩ := (mem_gapR h hm hr).mp hx
    rw [h1]
    omega
  · intro hx
    have hr := Nat.mod_lt x hm
    exact ⟨x % m, List.mem_range.mpr hr, (mem_gapR h hm hr).mpr ⟨rfl, by omega⟩⟩
theorem gapR_sorted (hm : 0 < m) (r : Nat) : (gapR l m r).Pairwise (· < ·) := by
  unfold gapR
  rw [List.pairwise_map]
  refine List.Pairwise.imp (fun {a b} hab => ?_) (range_sorted _)
  have := Nat.mul_lt_mul_of_pos_right hab hm
  omega
theorem nodup_of_sorted {l : List Nat} (h : l.Pairwise (· < ·)) : l.Nodup := List.Pairwise.imp (fun {a b} hab => Nat.ne_of_lt hab) h
theorem nodup_flat {f : Nat → List Nat} {g : Nat → Nat} : ∀ L : List Nat, L.Nodup → (∀ r ∈ L, (f r).Nodup) → (∀ r ∈ L, ∀ x ∈ f r, g x = r) → (L.flatMap f).Nodup
  | [], _, _, _ => List.Pairwise.nil
  | a :: L, h, h1, h2 => by
    rw [List.flatMap_cons]
    have hc := List.nodup_cons.mp h
    refine List.nodup_append.mpr ⟨h1 a List.mem_cons_self, nodup_flat L hc.2 (fun r hr => h1 r (List.mem_cons_of_mem _ hr)) (fun r hr => h2 r (List.mem_cons_of_mem _ hr)), ?_⟩
    intro x hx y hy e
    subst e
    obtain ⟨r, hr, hxr⟩ := List.mem_flatMap.mp hy
    have e1 := h2 a List.mem_cons_self x hx
    have e2 := h2 r (List.mem_cons_of_mem _ hr) x hxr
    rw [← e1, e2] at hc
    exact hc.1 hr
theorem gapF_nodup (hm : 0 < m) : (gapF l m).Nodup := by
  refine nodup_flat (g := fun x => x % m) _ List.nodup_range (fun r _ => nodup_of_sorted (gapR_sorted hm r)) fun r hr x hx => ?_
  exact gapR_mod (List.mem_range.mp hr) hx
theorem gap_perm (h : Nice l) (hm : 0 < m) (he : Sum l m) : (gapF l m).Perm (gapsL l) := by
  rw [List.perm_ext_iff_of_nodup (gapF_nodup hm) (nodup_of_sorted (gapsL_sorted l))]
  intro a
  rw [mem_gapF h hm he, mem_gapsL h.pos h.gcd]
end
end Sg
end

section
set_option linter.all false
set_option backward.match.sparseCases false
set_option maxRecDepth 100000
namespace Sg
open Classical
/-! ### the greatest gap: cnd l is one more, 0 if there is none -/
noncomputable def cnd (l : List Nat) : Nat := match (gapsL l).getLast? with
  | some x => x + 1
  | none => 0
theorem last_max : ∀ {L : List Nat}, L.Pairwise (· < ·) → ∀ {x : Nat}, L.getLast? = some x → x ∈ L ∧ ∀ y ∈ L, y ≤ x
  | L, h, x, e => by
    have hne : L ≠ [] := fun z => by rw [z] at e; cases e
    rw [List.getLast?_eq_some_getLast hne] at e
    injection e with e
    refine ⟨by rw [← e]; exact List.getLast_mem hne, fun y hy => ?_⟩
    rw [← List.dropLast_concat_getLast hne] at hy h
    rcases List.mem_append.mp hy with hy | hy
    · rw [← e]
      exact Nat.le_of_lt ((List.pairwise_append.mp h).2.2 y hy _ List.mem_cons_self)
    · rw [List.mem_singleton.mp hy, e]
      exact Nat.le_refl _
section
variable {l : List Nat} {m : Nat}
theorem cnd_sum (h : Nice l) {n : Nat} (hn : cnd l ≤ n) : Sum l n := by
  rcases Classical.em (Sum l n) with s | s
  · exact s
  · have hm := (mem_gapsL h.pos h.gcd n).mpr s
    unfold cnd at hn
    cases e : (gapsL l).getLast? with
    | none =>
      rw [List.getLast?_eq_none_iff.mp e] at hm
      cases hm
    | some x =>
      rw [e] at hn
      have := (last_max (gapsL_sorted l) e).2 n hm
      dsimp only at hn
      omega
theorem cnd_gap (h : Nice l) (hc : 0 < cnd l) : ¬ Sum l (cnd l - 1) := by
  unfold cnd at hc ⊢
  cases e : (gapsL l).getLast? with
  | none => rw [e] at hc; exact absurd hc (by decide)
  | some x =>
    have := (last_max (gapsL_sorted l) e).1
    exact (mem_gapsL h.pos h.gcd x).mp this
theorem cnd_unique (h : Nice l) {N : Nat} (h1 : ∀ n, N ≤ n → Sum l n) (h2 : 0 < N → ¬ Sum l (N - 1)) : N = cnd l := by
  rcases Nat.lt_trichotomy N (cnd l) with e | e | e
  · exact absurd (h1 (cnd l - 1) (by omega)) (cnd_gap h (by omega))
  · exact e
  · exact absurd (cnd_sum h (n := N - 1) (by omega)) (h2 (by omega))
theorem cnd_lt (h : Nice l) {n : Nat} (hn : ¬ Sum l n) : n < cnd l := by
  rcases Nat.lt_or_ge n (cnd l) with e | e
  · exact e
  · exact absurd (cnd_sum h e) hn
theorem cnd_bnd (h : Nice l) : cnd l ≤ bnd l := by
  rcases Nat.lt_or_ge (bnd l) (cnd l) with e | e
  · exact absurd (bnd_ok h.pos h.gcd (n := cnd l - 1) (by omega)) (cnd_gap h (by omega))
  · exact e
/-- the greatest one of a list of numbers -/
theorem exists_max : ∀ {L : List Nat}, L ≠ [] → ∃ W ∈ L, ∀ y ∈ L, y ≤ W
  | [], h => absurd rfl h
  | [a], _ => ⟨a, List.mem_cons_self, fun y hy => by rw [List.mem_singleton.mp hy]; exact Nat.le_refl _⟩
  | a :: b :: L, _ => by
    obtain ⟨W, h1, h2⟩ := exists_max (L := b :: L) (by simp)
    rcases Nat.le_total a W with e | e
    · exact ⟨W, List.mem_cons_of_mem _ h1, fun y hy => by
        rcases List.mem_cons.mp hy with rfl | hy
        · exact e
        · exact h2 y hy⟩
    · exact ⟨a, List.mem_cons_self, fun y hy => by
        rcases List.mem_cons.mp hy with rfl | hy
        · exact Nat.le_refl _
        · exact Nat.le_trans (h2 y hy) e⟩
theorem lvs_max (h : Nice l) (hm : 0 < m) (he : Sum l m) : ∃ W ∈ lvs l m, (∀ y ∈ lvs l m, y ≤ W) ∧ W + 1 = cnd l + m := by
  obtain ⟨W, h1, h2⟩ := exists_max (L := lvs l m) (fun z => by
    have := lvs_len (l := l) (m := m)
    rw [z] at this
    exact absurd this.symm (Nat.ne_of_gt hm))
  refine ⟨W, h1, h2, ?_⟩
  have h3 : m ≤ W + 1 := by
    have hr : m - 1 < m := by omega
    have h4 := h2 (lv l m (m - 1)) (List.mem_map.mpr ⟨m - 1, List.mem_range.mpr hr, rfl⟩)
    have h5 := lv_kv h hm hr
    omega
  have h6 : W + 1 - m = cnd l := by
    refine cnd_unique h (fun n hn => ?_) fun hp => ?_
    · rw [sum_lv h hm he]
      have hr := Nat.mod_lt n hm
      have h4 := h2 (lv l m (n % m)) (List.mem_map.mpr ⟨n % m, List.mem_range.mpr hr, rfl⟩)
      rcases Nat.lt_or_ge n (lv l m (n % m)) with e | e
      · obtain ⟨k, hk⟩ := mod_le_split (a := n) (n := lv l m (n % m)) (m := m) (lv_mod h hm hr).symm (Nat.le_of_lt e)
        have hk0 : 0 < k := by
          rcases Nat.eq_zero_or_pos k with z | z
          · subst z
            omega
          · exact z
        have : m ≤ k * m := Nat.le_mul_of_pos_left m hk0
        omega
      · exact e
    · rw [sum_lv h hm he]
      obtain ⟨r, hr, e⟩ := List.mem_map.mp h1
      rw [List.mem_range] at hr
      have h5 := lv_mod h hm hr
      rw [e] at h5
      have hw : m ≤ W := by omega
      have h7 : (W + 1 - m - 1) % m = r := by
        rw [show W + 1 - m - 1 = W - m by omega, ← h5, ← Nat.mod_eq_sub_mod hw]
      rw [h7, e]
      omega
  omega
/-! ### sums of sums -/
def sm (f : Nat → Int) : Nat → Int
  | 0 => 0
  | n + 1 => sm f n + f n
theorem sm_range (f : Nat → Nat) : ∀ n : Nat, ((((List.range n).map f).sum : Nat) : Int) = sm (fun r => (f r : Int)) n
  | 0 => rfl
  | n + 1 => by
    rw [List.range_succ, List.map_append, List.sum_append, Int.natCast_add, sm_range f n]
    show _ + (((f n + 0 : Nat)) : Int) = _
    rw [Nat.add_zero]
    rfl
theorem sm_congr {f g : Nat → Int} : ∀ n : Nat, (∀ r, r < n → f r = g r) → sm f n = sm g n
  | 0, _ => rfl
  | n + 1, h => by
    show sm f n + f n = sm g n + g n
    rw [sm_congr n fun r hr => h r (by omega), h n (by omega)]
theorem sm_id : ∀ n : Nat, 2 * sm (fun r => (r : Int)) n = n * (n - 1)
  | 0 => rfl
  | n + 1 => by
    have ih := sm_id n
    show 2 * (sm (fun r => (r : Int)) n + (n : Int)) = ((n + 1 : Nat) : Int) * (((n + 1 : Nat) : Int) - 1)
    rw [Int.natCast_add]
    grind
theorem sm_sq : ∀ n : Nat, 6 * sm (fun r => (r : Int) * r) n = (n - 1) * n * (2 * n - 1)
  | 0 => rfl
  | n + 1 => by
    have ih := sm_sq n
    show 6 * (sm (fun r => (r : Int) * r) n + (n : Int) * n) = (((n + 1 : Nat) : Int) - 1) * ((n + 1 : Nat) : Int) * (2 * ((n + 1 : Nat) : Int) - 1)
    rw [Int.natCast_add]
    grind
theorem sum_flat (f : Nat → List Nat) : ∀ L : List Nat, (L.flatMap f).sum = (L.map fun r => (f r).sum).sum
  | [] => rfl
  | a :: L => by rw [List.flatMap_cons, List.sum_append, sum_flat f L]; rfl
theorem len_flat (f : Nat → List Nat) : ∀ L : List Nat, (L.flatMap f).length = (L.map fun r => (f r).length).sum
  | [] => rfl
  | a :: L => by rw [List.flatMap_cons, List.length_append, len_flat f L]; rfl
theorem gapR_sum (l : List Nat) (m r : Nat) : 2 * ((gapR l m r).sum : Int) = 2 * kv l m r * r + m * kv l m r * (kv l m r - 1) := by
  unfold gapR
  rw [sm_range]
  generalize kv l m r = k
  induction k with
  | zero => simp [sm]
  | succ k ih =>
    show 2 * (sm (fun i => ((r + i * m : Nat) : Int)) k + ((r + k * m : Nat) : Int)) = _
    rw [Int.natCast_add, Int.natCast_mul, Int.natCast_add]
    grind
theorem selmer1 (h : Nice l) (hm : 0 < m) (he : Sum l m) : (2 * (lvs l m).sum : Int) = 2 * m * (gapsL l).length + m * (m - 1) := by
  rw [← (gap_perm h hm he).length_eq]
  unfold lvs gapF
  rw [len_flat, sm_range, sm_range]
  have e1 : sm (fun r => ((lv l m r : Nat) : Int)) m = sm (fun r => (r : Int) + (kv l m r : Int) * m) m := sm_congr m fun r hr => by
    rw [lv_kv h hm hr, Int.natCast_add, Int.natCast_mul]
  have e2 : sm (fun r => (((gapR l m r).length : Nat) : Int)) m = sm (fun r => (kv l m r : Int)) m := sm_congr m fun r hr => by
    unfold gapR
    rw [List.length_map, List.length_range]
  rw [e1, e2, ← sm_id m]
  have e3 : ∀ n : Nat, 2 * sm (fun r => (r : Int) + (kv l m r : Int) * m) n = 2 * m * sm (fun r => (kv l m r : Int)) n + 2 * sm (fun r => (r : Int)) n := by
    intro n
    induction n with
    | zero => simp [sm]
    | succ n ih =>
      simp only [sm]
      grind
  exact e3 m
theorem selmer2 (h : Nice l) (hm : 0 < m) (he : Sum l m) : (12 * m * (gapsL l).sum : Int) = 6 * (((lvs l m).map fun x => x * x).sum : Nat) - 6 * m * (lvs l m).sum + m * (m * m - 1) := by
  rw [← (gap_perm h hm he).sum_nat]
  unfold lvs gapF
  rw [sum_flat, sm_range, List.map_map, sm_range, sm_range]
  have e1 : sm (fun r => ((lv l m r : Nat) : Int)) m = sm (fun r => (r : Int) + (kv l m r : Int) * m) m := sm_congr m fun r hr => by
    rw [lv_kv h hm hr, Int.natCast_add, Int.natCast_mul]
  have e2 : sm (fun r => ((((fun x => x * x) ∘ lv l m) r : Nat) : Int)) m = sm (fun r => ((r : Int) + (kv l m r : Int) * m) * ((r : Int) + (kv l m r : Int) * m)) m := sm_congr m fun r hr => by
    show ((lv l m r * lv l m r : Nat) : Int) = _
    rw [Int.natCast_mul, lv_kv h hm hr, Int.natCast_add, Int.natCast_mul]
  rw [e1, e2]
  have e3 : ∀ n : Nat, 12 * (m : Int) * sm (fun r => (((gapR l m r).sum : Nat) : Int)) n = 6 * sm (fun r => ((r : Int) + (kv l m r : Int) * m) * ((r : Int) + (kv l m r : Int) * m)) n - 6 * m * sm (fun r => (r : Int) + (kv l m r : Int) * m) n + 6 * m * sm (fun r => (r : Int)) n - 6 * sm (fun r => (r : Int) * r) n := by
    intro n
    induction n with
    | zero => simp [sm]
    | succ n ih =>
      simp only [sm]
      have := gapR_sum l m n
      grind
  rw [e3 m]
  have a1 := sm_id m
  have a2 := sm_sq m
  grind
end
end Sg
end

section
set_option linter.all false
set_option backward.match.sparseCases false
set_option maxRecDepth 100000
namespace Gp
open G PySem Sg Classical
theorem IsSg.nice {l : List Nat} (h : IsSg l) : Nice l := ⟨fun x hx => h.lo x hx, h.gcd⟩
theorem IsSg.head {l : List Nat} (h : IsSg l) : ∃ m F, l = m :: F ∧ 1 ≤ m ∧ m ≤ 99 := by
  cases l with
  | nil => exact absurd h.len1 (by decide)
  | cons m F => exact ⟨m, F, rfl, h.lo m List.mem_cons_self, h.hi m List.mem_cons_self⟩
/-- the table is full -/
theorem least_full {l : List Nat} {m : Nat} {c : D} (hc : c = .lst (lD l) ∨ c = .tup (lD l)) (h : Nice l) (hm : 0 < m) (hm2 : m < 400000) : g_least_by [c, nD m] = .ok (.lst (lD (lvs l m))) := by
  rw [least_eq hc hm hm2, leastBy_lvs h hm]
  show R.ok (D.lst (((lvs l m).map some).map oD)) = _
  rw [List.map_map]
  rfl
theorem lD_ix0 {l : List Nat} {x : Nat} (h : l[0]? = some x) : dIx (.tup (lD l)) (.int 0) = some (nD x) := lD_ixT (p := 0) h
theorem lvs_ix {l : List Nat} {m r : Nat} (hr : r < m) : dIx (.lst (lD (lvs l m))) (nD r) = some (nD (lv l m r)) := lD_ix (lvs_get hr)
/-! ### has -/
theorem has_eq {l : List Nat} {m : Nat} (h : Nice l) (hm : l[0]? = some m) (hm2 : m < 400000) (n : Nat) : g_has [.tup (lD l), nD n] = .ok (.bl (decide (Sum l n))) := by
  have hml : m ∈ l := List.mem_of_getElem? hm
  have hm0 := h.pos m hml
  have e1 := dGe_n n 0
  rw [decide_eq_true (Nat.zero_le n)] at e1
  have e2 := lD_ix0 hm
  have e3 : g_least_by [.tup (lD l), nD m] = _ := least_full (.inr rfl) h hm0 hm2
  have e4 := dMod_n (a := n) hm0
  have e5 := lvs_ix (l := l) (Nat.mod_lt n hm0)
  have e6 := dLe_n (lv l m (n % m)) n
  have e7 : decide (lv l m (n % m) ≤ n) = decide (Sum l n) := decide_eq_decide.mpr (sum_lv h hm0 (.gen hml) n).symm
  rw [e7] at e6
  show endP (f_has [.im (.tup (lD l)), .im (nD n)] 0) = _
  unfold f_has
  simp only [sSeq, sNext, sIfS, sRet, sDrop, sAsg, sPar, sAug, sAsgN, sParN, sParM, sApp, sExt, sSetIx, sFrz, sRaise, sVar, sC, sOp, sUn, sCb, sCons, sConsTw, sNil, sTup, sLst, nLst, nOp, sNw, sTest, sAnd, sOr, sNot, sAndV, sOrV, sNotV, sIf, sChain, sIxOw, sLenOw, sSl, sSlOw, sPart, sNoPart, sCallP, sCallT, liftR, noEx, sThaw, sThawT, sIsi, sFor, nSeq, nRng1, nRng2, nLc, sTick, sYes, bindE, bindS, optE, asB, asI, G.plain, gN, gT, gTs, wipeD, Option.map, Option.bind, List.getElem?_cons_zero, List.getElem?_cons_succ, List.set_cons_zero, List.set_cons_succ, List.getElem?_nil, List.length_cons, List.length_nil, show dGe (nD n) (.int 0) = _ from e1, e2, e3, e4, e5, e6, endP]
/-! ### gap_list -/
theorem stepN_n {r m k : Nat} (hm : 0 < m) : stepN (r : Int) ((r + k * m : Nat) : Int) (m : Int) = k := by
  unfold stepN
  by_cases hk : k = 0
  · subst hk
    rw [if_neg (by omega)]
  · have h1 : m ≤ k * m := Nat.le_mul_of_pos_left m (by omega)
    rw [if_pos (by omega)]
    have h2 : ((r + k * m : Nat) : Int) - r - 1 = (((k - 1) * m + (m - 1) : Nat) : Int) := by
      have : (k - 1) * m = k * m - m := by rw [Nat.sub_mul, Nat.one_mul]
      omega
    have h3 : ((k - 1) * m + (m - 1)) / m = k - 1 := by
      rw [Nat.add_comm, Nat.add_mul_div_right _ _ hm, Nat.div_eq_of_lt (by omega), Nat.zero_add]
    rw [h2, ← Int.natCast_ediv, h3]
    omega
theorem stepD_n (r m k : Nat) : stepD (r : Int) (m : Int) k = lD ((List.range k).map fun i => r + i * m) := by
  unfold stepD
  show _ = ((List.range k).map fun i => r + i * m).map nD
  rw [List.map_map]
  apply List.map_congr_left
  intro i _
  show D.int _ = D.int (((r + i * m : Nat)) : Int)
  rw [Int.natCast_add, Int.natCast_mul]
theorem sorted_lD {l l' : List Nat} (p : l.Perm l') (h : l'.Pairwise (· < ·)) : bSorted [.lst (lD l)] = some (.lst (lD l')) := by
  have e1 : intArg [.lst (lD l)] = some (l.map Int.ofNat) := intsD_lD l
  unfold bSorted
  rw [e1]
  have e2 : sortI (l.map Int.ofNat) = l'.map Int.ofNat := by
    refine sorted_unique ((sortI_perm _).trans (p.map _)) (sortI_sorted _) ?_
    rw [List.pairwise_map]
    refine List.Pairwise.imp (fun {a b} hab => ?_) h
    rw [ofN, ofN]
    omega
  show some (D.lst ((sortI (l.map Int.ofNat)).map D.int)) = _
  rw [e2, List.map_map]
  rfl
theorem enum_lD {l : List Nat} {i : Nat} {d : D} (h : (enumD 0 (lD l))[i]? = some d) : ∃ x, l[i]? = some x ∧ d = .tup [nD i, nD x] := by
  obtain ⟨e, h1, h2⟩ := enumD_get _ _ _ _ h
  obtain ⟨x, hx, rfl⟩ := lD_get h1
  rw [Nat.zero_add] at h2
  exact ⟨x, hx, h2⟩
theorem okI_n {B n : Nat} (h : n < B) : okI B (n : Int) = true := okI_of (by omega) (by omega)
theorem len_gapF_le {l : List Nat} (h : Nice l) {m : Nat} (hm : 0 < m) (he : Sum l m) {i : Nat} (hi : i ≤ m) : ((List.range i).flatMap (gapR l m)).length ≤ bnd l := by
  have h1 : ((List.range i).flatMap (gapR l m)).Sublist (gapF l m) := by
    unfold gapF
    rw [show m = i + (m - i) by omega, List.range_add, List.flatMap_append]
    rw [show i + (m - i) = m by omega]
    exact List.sublist_append_left _ _
  have h2 := h1.length_le
  rw [(gap_perm h hm he).length_eq] at h2
  have h3 : (gapsL l).length ≤ bnd l := by
    have := List.length_filter_le (noS l) (List.range (bnd l))
    rw [List.length_range] at this
    exact this
  omega
theorem gapList_eq {l : List Nat} {m : Nat} (h : Nice l) (hm : l[0]? = some m) (hm2 : m < 400000) (hb : m * l.sum < 900000) : g_gap_list [.tup (lD l)] = .ok (.lst (lD (gapsL l))) := by
  have hml : m ∈ l := List.mem_of_getElem? hm
  have hm0 := h.pos m hml
  have he : Sum l m := .gen hml
  have hbn : bnd l = m * l.sum := by
    unfold bnd
    cases l with
    | nil => cases hm
    | cons x r => cases hm; rfl
  have e2 := lD_ix0 hm
  have e3 : g_least_by [.tup (lD l), nD m] = _ := least_full (.inr rfl) h hm0 hm2
  obtain ⟨s', e, y3, y4, es⟩ := loopS_inv0 (tg := gT [3, 4]) (f := sExt 2 (nR3 (sCons (sVar 3) (sCons (sVar 4) (sCons (sVar 1) sNil))))) (n := 0)
    (fun i s => ∃ y3 y4, s = [.im (.tup (lD l)), .im (nD m), .ow (lD ((List.range i).flatMap (gapR l m))), y3, y4]) (ds := enumD 0 (lD (lvs l m))) (s := [.im (.tup (lD l)), .im (nD m), .ow [], .un, .un]) ⟨.un, .un, rfl⟩ fun i d s hi hI => by
      obtain ⟨x, hx, ed⟩ := enum_lD hi
      obtain ⟨y3, y4, es⟩ := hI
      subst ed es
      have hil : i < m := by
        have := (List.getElem?_eq_some_iff.mp hx).1
        rwa [lvs_len] at this
      rw [lvs_get hil] at hx
      cases hx
      have hv := lv_bnd h hm0 hil
      have hk := lv_kv h hm0 hil
      have o1 : okI 1000000 (i : Int) = true := okI_n (by omega)
      have o2 : okI 1000000 (lv l m i : Int) = true := okI_n (by omega)
      have o3 : okI 1000000 (m : Int) = true := okI_n (by omega)
      have o4 : posI (m : Int) = true := posI_of (by omega)
      have e5 : stepD (i : Int) (m : Int) (stepN (i : Int) (lv l m i : Int) (m : Int)) = lD (gapR l m i) := by
        rw [hk, stepN_n hm0, stepD_n]
        rfl
      have e6 := len_gapF_le h hm0 he (i := i) (by omega)
      have e7 := len_gapF_le h hm0 he (i := i + 1) (by omega)
      rw [List.range_succ, List.flatMap_append, List.length_append] at e7
      rw [hbn] at e6 e7
      have e8 : (gapR l m i).length ≤ m * l.sum := by
        rw [List.flatMap_cons, List.flatMap_nil, List.append_nil] at e7
        omega
      refine ⟨[.im (.tup (lD l)), .im (nD m), .ow (lD ((List.range i).flatMap (gapR l m))), .im (nD i), .im (nD (lv l m i))], [.im (.tup (lD l)), .im (nD m), .ow (lD ((List.range (i + 1)).flatMap (gapR l m))), .im (nD i), .im (nD (lv l m i))], rfl, ?_, _, _, rfl⟩
      rw [List.range_succ, List.flatMap_append, lD_append, List.flatMap_cons, List.flatMap_nil, List.append_nil]
      have hq : (lD ((List.range i).flatMap (gapR l m))).length + (lD (gapR l m i)).length < big := big_of (by rw [List.length_map, List.length_map]; omega)
      have n1 : nR3 (sCons (sVar 3) (sCons (sVar 4) (sCons (sVar 1) sNil))) [.im (.tup (lD l)), .im (nD m), .ow (lD ((List.range i).flatMap (gapR l m))), .im (nD i), .im (nD (lv l m i))] 0 = .ok (.lst (lD (gapR l m i)), 0) := by
        unfold nR3
        simp only [sSeq, sNext, sIfS, sRet, sDrop, sAsg, sPar, sAug, sAsgN, sParN, sParM, sApp, sExt, sSetIx, sFrz, sRaise, sVar, sC, sOp, sUn, sCb, sCons, sConsTw, sNil, sTup, sLst, nLst, nOp, sNw, sTest, sAnd, sOr, sNot, sAndV, sOrV, sNotV, sIf, sChain, sIxOw, sLenOw, sSl, sSlOw, sPart, sNoPart, sCallP, sCallT, liftR, noEx, sThaw, sThawT, sIsi, sFor, nSeq, nRng1, nRng2, nLc, sTick, sYes, bindE, bindS, optE, asB, asI, G.plain, gN, gT, gTs, wipeD, Option.map, Option.bind, List.getElem?_cons_zero, List.getElem?_cons_succ, List.set_cons_zero, List.set_cons_succ, List.getElem?_nil, List.length_cons, List.length_nil]
        rw [if_pos ⟨o1, o2, o3, o4⟩, e5]
      unfold sExt
      simp only [sSeq, sNext, sIfS, sRet, sDrop, sAsg, sPar, sAug, sAsgN, sParN, sParM, sApp, sExt, sSetIx, sFrz, sRaise, sVar, sC, sOp, sUn, sCb, sCons, sConsTw, sNil, sTup, sLst, nLst, nOp, sNw, sTest, sAnd, sOr, sNot, sAndV, sOrV, sNotV, sIf, sChain, sIxOw, sLenOw, sSl, sSlOw, sPart, sNoPart, sCallP, sCallT, liftR, noEx, sThaw, sThawT, sIsi, sFor, nSeq, nRng1, nRng2, nLc, sTick, sYes, bindE, bindS, optE, asB, asI, G.plain, gN, gT, gTs, wipeD, Option.map, Option.bind, List.getElem?_cons_zero, List.getElem?_cons_succ, List.set_cons_zero, List.set_cons_succ, List.getElem?_nil, List.length_cons, List.length_nil, n1, hq, if_true]
  rw [enumD_len, List.length_map, lvs_len] at es
  have e9 := sorted_lD (gap_perm h hm0 he) (gapsL_sorted l)
  have a1 : nEnumU (sCons (sCallP g_least_by (sCons (sVar 0) (sCons (sVar 1) sNil))) sNil) [.im (.tup (lD l)), .im (nD m), .ow [], .un, .un] 0 = .ok (enumD 0 (lD (lvs l m)), 0) := by
    simp only [nEnumU, sSeq, sNext, sIfS, sRet, sDrop, sAsg, sPar, sAug, sAsgN, sParN, sParM, sApp, sExt, sSetIx, sFrz, sRaise, sVar, sC, sOp, sUn, sCb, sCons, sConsTw, sNil, sTup, sLst, nLst, nOp, sNw, sTest, sAnd, sOr, sNot, sAndV, sOrV, sNotV, sIf, sChain, sIxOw, sLenOw, sSl, sSlOw, sPart, sNoPart, sCallP, sCallT, liftR, noEx, sThaw, sThawT, sIsi, sFor, nSeq, nRng1, nRng2, nLc, sTick, sYes, bindE, bindS, optE, asB, asI, G.plain, gN, gT, gTs, wipeD, Option.map, Option.bind, List.getElem?_cons_zero, List.getElem?_cons_succ, List.set_cons_zero, List.set_cons_succ, List.getElem?_nil, List.length_cons, List.length_nil, e3]
  show endP (f_gap_list [.im (.tup (lD l)), .un, .un, .un, .un] 0) = _
  have a2 := (sFor_eq (tg := gT [3, 4]) (f := sExt 2 (nR3 (sCons (sVar 3) (sCons (sVar 4) (sCons (sVar 1) sNil))))) a1).trans e
  have a3 : f_gap_list [.im (.tup (lD l)), .un, .un, .un, .un] 0 = .rt (.lst (lD (gapsL l))) 0 := by
    unfold f_gap_list
    refine (sSeq_nx (s' := [.im (.tup (lD l)), .im (nD m), .un, .un, .un]) (n' := 0) (by simp only [sSeq, sNext, sIfS, sRet, sDrop, sAsg, sPar, sAug, sAsgN, sParN, sParM, sApp, sExt, sSetIx, sFrz, sRaise, sVar, sC, sOp, sUn, sCb, sCons, sConsTw, sNil, sTup, sLst, nLst, nOp, sNw, sTest, sAnd, sOr, sNot, sAndV, sOrV, sNotV, sIf, sChain, sIxOw, sLenOw, sSl, sSlOw, sPart, sNoPart, sCallP, sCallT, liftR, noEx, sThaw, sThawT, sIsi, sFor, nSeq, nRng1, nRng2, nLc, sTick, sYes, bindE, bindS, optE, asB, asI, G.plain, gN, gT, gTs, wipeD, Option.map, Option.bind, List.getElem?_cons_zero, List.getElem?_cons_succ, List.set_cons_zero, List.set_cons_succ, List.getElem?_nil, List.length_cons, List.length_nil, e2])).trans ((sSeq_nx (s' := [.im (.tup (lD l)), .im (nD m), .ow [], .un, .un]) (n' := 0) rfl).trans ((sSeq_nx a2).trans ?_))
    rw [es]
    have e10 : bSorted [.lst (lD ((List.range m).flatMap (gapR l m)))] = _ := e9
    simp only [sSeq, sNext, sIfS, sRet, sDrop, sAsg, sPar, sAug, sAsgN, sParN, sParM, sApp, sExt, sSetIx, sFrz, sRaise, sVar, sC, sOp, sUn, sCb, sCons, sConsTw, sNil, sTup, sLst, nLst, nOp, sNw, sTest, sAnd, sOr, sNot, sAndV, sOrV, sNotV, sIf, sChain, sIxOw, sLenOw, sSl, sSlOw, sPart, sNoPart, sCallP, sCallT, liftR, noEx, sThaw, sThawT, sIsi, sFor, nSeq, nRng1, nRng2, nLc, sTick, sYes, bindE, bindS, optE, asB, asI, G.plain, gN, gT, gTs, wipeD, Option.map, Option.bind, List.getElem?_cons_zero, List.getElem?_cons_succ, List.set_cons_zero, List.set_cons_succ, List.getElem?_nil, List.length_cons, List.length_nil, e10]
  rw [a3]
  rfl
end Gp
end

section
set_option linter.all false
set_option backward.match.sparseCases false
set_option maxRecDepth 100000
namespace Gp
open G PySem Sg Classical
theorem big0 : (0 < big) = True := by simp [big]
theorem big1 : (0 + 1 < big) = True := by simp [big]
theorem big2 : (0 + 1 + 1 < big) = True := by simp [big]
theorem big3 : (0 + 1 + 1 + 1 < big) = True := by simp [big]
theorem big4 : (0 + 1 + 1 + 1 + 1 < big) = True := by simp [big]
theorem big5 : (0 + 1 + 1 + 1 + 1 + 1 < big) = True := by simp [big]
theorem sum_le_mul : ∀ {l : List Nat} {B : Nat}, (∀ x ∈ l, x ≤ B) → l.sum ≤ l.length * B
  | [], _, _ => Nat.zero_le _
  | a :: l, B, h => by
    rw [List.sum_cons, List.length_cons, Nat.add_mul, Nat.one_mul]
    have := sum_le_mul (l := l) (B := B) fun x hx => h x (List.mem_cons_of_mem _ hx)
    have := h a List.mem_cons_self
    omega
theorem IsSg.sum_le {l : List Nat} (h : IsSg l) : l.sum ≤ 1188 := by
  have h1 := sum_le_mul h.hi
  have h2 := Nat.mul_le_mul_right 99 h.len2
  omega
/-- all that is needed of a semigroup's first number -/
structure Hd (l : List Nat) (m : Nat) : Prop where
  at0 : l[0]? = some m
  mem : m ∈ l
  pos : 0 < m
  le : m ≤ 99
theorem IsSg.hd {l : List Nat} (h : IsSg l) : ∃ m, Hd l m := by
  obtain ⟨m, F, rfl, h1, h2⟩ := h.head
  exact ⟨m, rfl, List.mem_cons_self, h1, h2⟩
theorem Hd.sum {l : List Nat} {m : Nat} (h : Hd l m) : Sum l m := .gen h.mem
theorem IsSg.bound {l : List Nat} (h : IsSg l) {m : Nat} (d : Hd l m) : m * l.sum ≤ 117612 := Nat.mul_le_mul d.le h.sum_le
theorem Hd.bnd {l : List Nat} {m : Nat} (d : Hd l m) : Sg.bnd l = m * l.sum := by
  unfold Sg.bnd
  have := d.at0
  cases l with
  | nil => cases this
  | cons x r => cases this; rfl
theorem IsSg.cnd_le {l : List Nat} (h : IsSg l) : cnd l ≤ 117612 := by
  obtain ⟨m, d⟩ := h.hd
  have h1 := cnd_bnd h.nice
  rw [d.bnd] at h1
  have := h.bound d
  omega
theorem IsSg.len_gaps {l : List Nat} (h : IsSg l) : (gapsL l).length ≤ 117612 := by
  obtain ⟨m, d⟩ := h.hd
  have h3 : (gapsL l).length ≤ Sg.bnd l := by
    have := List.length_filter_le (noS l) (List.range (Sg.bnd l))
    rw [List.length_range] at this
    exact this
  rw [d.bnd] at h3
  have := h.bound d
  omega
section
variable {l : List Nat}
theorem IsSg.has (h : IsSg l) (n : Nat) : g_has [.tup (lD l), nD n] = .ok (.bl (decide (Sum l n))) := by
  obtain ⟨m, d⟩ := h.hd
  exact has_eq h.nice d.at0 (by have := d.le; omega) n
theorem IsSg.gapl (h : IsSg l) : g_gap_list [.tup (lD l)] = .ok (.lst (lD (gapsL l))) := by
  obtain ⟨m, d⟩ := h.hd
  exact gapList_eq h.nice d.at0 (by have := d.le; omega) (by have := h.bound d; omega)
theorem dSub_i (a b : Int) : dSub (.int a) (.int b) = some (.int (a - b)) := rfl
theorem IsSg.great (h : IsSg l) : g_greatest_of [.tup (lD l)] = .ok (.int ((cnd l : Int) - 1)) := by
  obtain ⟨m, d⟩ := h.hd
  obtain ⟨W, w1, w2, w3⟩ := lvs_max h.nice d.pos d.sum
  have e1 := lD_ix0 d.at0
  have e2 : g_least_by [.tup (lD l), nD m] = _ := least_full (.inr rfl) h.nice d.pos (by have := d.le; omega)
  have e3 := bMax_of (c := .lst (lD (lvs l m))) (.inl rfl) w1 w2
  have e4 := dSub_i (W : Int) (m : Int)
  rw [show (W : Int) - m = (cnd l : Int) - 1 by omega] at e4
  show endP (f_greatest_of [.im (.tup (lD l))] 0) = _
  unfold f_greatest_of
  simp only [sSeq, sNext, sIfS, sRet, sDrop, sAsg, sPar, sAug, sAsgN, sParN, sParM, sApp, sExt, sSetIx, sFrz, sRaise, sVar, sC, sOp, sUn, sCb, sCons, sConsTw, sNil, sTup, sLst, nLst, nOp, sNw, sTest, sAnd, sOr, sNot, sAndV, sOrV, sNotV, sIf, sChain, sIxOw, sLenOw, sSl, sSlOw, sPart, sNoPart, sCallP, sCallT, liftR, noEx, sThaw, sThawT, sIsi, sFor, nSeq, nRng1, nRng2, nLc, sTick, sYes, bindE, bindS, optE, asB, asI, G.plain, gN, gT, gTs, wipeD, Option.map, Option.bind, List.getElem?_cons_zero, List.getElem?_cons_succ, List.set_cons_zero, List.set_cons_succ, List.getElem?_nil, List.length_cons, List.length_nil, e1, e2, e3, show dSub (nD W) (nD m) = _ from e4, endP]
theorem IsSg.gaps (h : IsSg l) : g_gaps [.tup (lD l)] = .ok (.lst (lD (gapsL l))) := by
  have e1 := h.check
  have e2 := h.gapl
  show endP (f_gaps [.im (.tup (lD l))] 0) = _
  unfold f_gaps
  simp only [sSeq, sNext, sIfS, sRet, sDrop, sAsg, sPar, sAug, sAsgN, sParN, sParM, sApp, sExt, sSetIx, sFrz, sRaise, sVar, sC, sOp, sUn, sCb, sCons, sConsTw, sNil, sTup, sLst, nLst, nOp, sNw, sTest, sAnd, sOr, sNot, sAndV, sOrV, sNotV, sIf, sChain, sIxOw, sLenOw, sSl, sSlOw, sPart, sNoPart, sCallP, sCallT, liftR, noEx, sThaw, sThawT, sIsi, sFor, nSeq, nRng1, nRng2, nLc, sTick, sYes, bindE, bindS, optE, asB, asI, G.plain, gN, gT, gTs, wipeD, Option.map, Option.bind, List.getElem?_cons_zero, List.getElem?_cons_succ, List.set_cons_zero, List.set_cons_succ, List.getElem?_nil, List.length_cons, List.length_nil, e1, e2, endP]
theorem IsSg.genus (h : IsSg l) : g_genus [.tup (lD l)] = .ok (nD (gapsL l).length) := by
  have e1 := h.check
  have e2 := h.gapl
  have e3 := bLen_of (c := .lst (lD (gapsL l))) (.inl rfl)
  show endP (f_genus [.im (.tup (lD l))] 0) = _
  unfold f_genus
  simp only [sSeq, sNext, sIfS, sRet, sDrop, sAsg, sPar, sAug, sAsgN, sParN, sParM, sApp, sExt, sSetIx, sFrz, sRaise, sVar, sC, sOp, sUn, sCb, sCons, sConsTw, sNil, sTup, sLst, nLst, nOp, sNw, sTest, sAnd, sOr, sNot, sAndV, sOrV, sNotV, sIf, sChain, sIxOw, sLenOw, sSl, sSlOw, sPart, sNoPart, sCallP, sCallT, liftR, noEx, sThaw, sThawT, sIsi, sFor, nSeq, nRng1, nRng2, nLc, sTick, sYes, bindE, bindS, optE, asB, asI, G.plain, gN, gT, gTs, wipeD, Option.map, Option.bind, List.getElem?_cons_zero, List.getElem?_cons_succ, List.set_cons_zero, List.set_cons_succ, List.getElem?_nil, List.length_cons, List.length_nil, e1, e2, e3, endP]
theorem IsSg.ggap (h : IsSg l) : g_greatest_gap [.tup (lD l)] = .ok (.int ((cnd l : Int) - 1)) := by
  have e1 := h.check
  have e2 := h.great
  show endP (f_greatest_gap [.im (.tup (lD l))] 0) = _
  unfold f_greatest_gap
  simp only [sSeq, sNext, sIfS, sRet, sDrop, sAsg, sPar, sAug, sAsgN, sParN, sParM, sApp, sExt, sSetIx, sFrz, sRaise, sVar, sC, sOp, sUn, sCb, sCons, sConsTw, sNil, sTup, sLst, nLst, nOp, sNw, sTest, sAnd, sOr, sNot, sAndV, sOrV, sNotV, sIf, sChain, sIxOw, sLenOw, sSl, sSlOw, sPart, sNoPart, sCallP, sCallT, liftR, noEx, sThaw, sThawT, sIsi, sFor, nSeq, nRng1, nRng2, nLc, sTick, sYes, bindE, bindS, optE, asB, asI, G.plain, gN, gT, gTs, wipeD, Option.map, Option.bind, List.getElem?_cons_zero, List.getElem?_cons_succ, List.set_cons_zero, List.set_cons_succ, List.getElem?_nil, List.length_cons, List.length_nil, e1, e2, endP]
theorem IsSg.contains (h : IsSg l) {n : Nat} (hn : n ≤ 99999) : g_contains [.tup (lD l), nD n] = .ok (.bl (decide (Sum l n))) := by
  have e1 := h.check
  have e2 := isInt_eq n 0 99999
  rw [decide_eq_true ⟨Nat.zero_le n, hn⟩] at e2
  have e3 := h.has n
  show endP (f_contains [.im (.tup (lD l)), .im (nD n)] 0) = _
  unfold f_contains
  simp only [sSeq, sNext, sIfS, sRet, sDrop, sAsg, sPar, sAug, sAsgN, sParN, sParM, sApp, sExt, sSetIx, sFrz, sRaise, sVar, sC, sOp, sUn, sCb, sCons, sConsTw, sNil, sTup, sLst, nLst, nOp, sNw, sTest, sAnd, sOr, sNot, sAndV, sOrV, sNotV, sIf, sChain, sIxOw, sLenOw, sSl, sSlOw, sPart, sNoPart, sCallP, sCallT, liftR, noEx, sThaw, sThawT, sIsi, sFor, nSeq, nRng1, nRng2, nLc, sTick, sYes, bindE, bindS, optE, asB, asI, G.plain, gN, gT, gTs, wipeD, Option.map, Option.bind, List.getElem?_cons_zero, List.getElem?_cons_succ, List.set_cons_zero, List.set_cons_succ, List.getElem?_nil, List.length_cons, List.length_nil, e1, show g_is_integer [nD n, .int 0, .int 99999] = _ from e2, e3, endP, Bool.not_true]
theorem IsSg.leastE (h : IsSg l) {m : Nat} (h1 : 1 ≤ m) (h2 : m ≤ 999) (hs : Sum l m) : g_least_elements [.tup (lD l), nD m] = .ok (.lst (lD (lvs l m))) := by
  have e1 := h.check
  have e2 := isInt_eq m 1 999
  rw [decide_eq_true ⟨h1, h2⟩] at e2
  have e3 := h.has m
  rw [decide_eq_true hs] at e3
  have e4 : g_least_by [.tup (lD l), nD m] = _ := least_full (.inr rfl) h.nice h1 (by omega)
  show endP (f_least_elements [.im (.tup (lD l)), .im (nD m)] 0) = _
  unfold f_least_elements
  simp only [sSeq, sNext, sIfS, sRet, sDrop, sAsg, sPar, sAug, sAsgN, sParN, sParM, sApp, sExt, sSetIx, sFrz, sRaise, sVar, sC, sOp, sUn, sCb, sCons, sConsTw, sNil, sTup, sLst, nLst, nOp, sNw, sTest, sAnd, sOr, sNot, sAndV, sOrV, sNotV, sIf, sChain, sIxOw, sLenOw, sSl, sSlOw, sPart, sNoPart, sCallP, sCallT, liftR, noEx, sThaw, sThawT, sIsi, sFor, nSeq, nRng1, nRng2, nLc, sTick, sYes, bindE, bindS, optE, asB, asI, G.plain, gN, gT, gTs, wipeD, Option.map, Option.bind, List.getElem?_cons_zero, List.getElem?_cons_succ, List.set_cons_zero, List.set_cons_succ, List.getElem?_nil, List.length_cons, List.length_nil, e1, show g_is_integer [nD m, .int 1, .int 999] = _ from e2, e3, e4, endP, Bool.not_true]
theorem dEq_i (a b : Int) : dEq (.int a) (.int b) = some (.bl (decide (a = b))) := by
  unfold dEq
  rw [if_pos ⟨okD_of (by show 0 ≤ 64; decide), okD_of (by show 0 ≤ 64; decide)⟩]
  congr 2
theorem dNe_i (a b : Int) : dNe (.int a) (.int b) = some (.bl (decide (a ≠ b))) := by
  unfold dNe
  rw [if_pos ⟨okD_of (by show 0 ≤ 64; decide), okD_of (by show 0 ≤ 64; decide)⟩]
  have : eqD (.int a) (.int b) = decide (a = b) := rfl
  rw [this, ← decide_not]
theorem dMul2_n (a : Nat) : dMul (.int 2) (nD a) = some (nD (2 * a)) := dMul2 a
theorem IsSg.symm (h : IsSg l) : g_is_symmetric [.tup (lD l)] = .ok (.bl (decide (2 * (gapsL l).length = cnd l))) := by
  have e1 := h.check
  have e2 := h.gapl
  have e3 := bLen_of (c := .lst (lD (gapsL l))) (.inl rfl)
  have e4 := h.great
  have e5 := dMul2_n (gapsL l).length
  have e6 := dAdd_i ((cnd l : Int) - 1) 1
  have e7 := dEq_i ((2 * (gapsL l).length : Nat) : Int) ((cnd l : Int) - 1 + 1)
  have e8 : decide (((2 * (gapsL l).length : Nat) : Int) = (cnd l : Int) - 1 + 1) = decide (2 * (gapsL l).length = cnd l) := decide_eq_decide.mpr (by omega)
  rw [e8] at e7
  show endP (f_is_symmetric [.im (.tup (lD l))] 0) = _
  unfold f_is_symmetric
  simp only [sSeq, sNext, sIfS, sRet, sDrop, sAsg, sPar, sAug, sAsgN, sParN, sParM, sApp, sExt, sSetIx, sFrz, sRaise, sVar, sC, sOp, sUn, sCb, sCons, sConsTw, sNil, sTup, sLst, nLst, nOp, sNw, sTest, sAnd, sOr, sNot, sAndV, sOrV, sNotV, sIf, sChain, sIxOw, sLenOw, sSl, sSlOw, sPart, sNoPart, sCallP, sCallT, liftR, noEx, sThaw, sThawT, sIsi, sFor, nSeq, nRng1, nRng2, nLc, sTick, sYes, bindE, bindS, optE, asB, asI, G.plain, gN, gT, gTs, wipeD, Option.map, Option.bind, List.getElem?_cons_zero, List.getElem?_cons_succ, List.set_cons_zero, List.set_cons_succ, List.getElem?_nil, List.length_cons, List.length_nil, e1, e2, e3, e4, e5, e6, e7, endP]
theorem dIn_12 (a : Int) : dIn (.int a) (.tup [.int 1, .int 2]) = some (.bl (decide (a = 1 ∨ a = 2))) := by
  unfold dIn inD
  simp [eqF, flatD, eq_comm]
  rw [Bool.eq_iff_iff]
  simp
  omega
theorem IsSg.irr (h : IsSg l) : g_is_irreducible [.tup (lD l)] = .ok (.bl (decide (2 * (gapsL l).length = cnd l ∨ 2 * (gapsL l).length = cnd l + 1))) := by
  have e1 := h.check
  have e2 := h.gapl
  have e3 := bLen_of (c := .lst (lD (gapsL l))) (.inl rfl)
  have e4 := h.great
  have e5 := dMul2_n (gapsL l).length
  have e6 := dSub_i ((2 * (gapsL l).length : Nat) : Int) ((cnd l : Int) - 1)
  have e7 := dIn_12 (((2 * (gapsL l).length : Nat) : Int) - ((cnd l : Int) - 1))
  have e8 : decide (((2 * (gapsL l).length : Nat) : Int) - ((cnd l : Int) - 1) = 1 ∨ ((2 * (gapsL l).length : Nat) : Int) - ((cnd l : Int) - 1) = 2) = decide (2 * (gapsL l).length = cnd l ∨ 2 * (gapsL l).length = cnd l + 1) := decide_eq_decide.mpr (by omega)
  rw [e8] at e7
  show endP (f_is_irreducible [.im (.tup (lD l))] 0) = _
  unfold f_is_irreducible
  simp only [sSeq, sNext, sIfS, sRet, sDrop, sAsg, sPar, sAug, sAsgN, sParN, sParM, sApp, sExt, sSetIx, sFrz, sRaise, sVar, sC, sOp, sUn, sCb, sCons, sConsTw, sNil, sTup, sLst, nLst, nOp, sNw, sTest, sAnd, sOr, sNot, sAndV, sOrV, sNotV, sIf, sChain, sIxOw, sLenOw, sSl, sSlOw, sPart, sNoPart, sCallP, sCallT, liftR, noEx, sThaw, sThawT, sIsi, sFor, nSeq, nRng1, nRng2, nLc, sTick, sYes, bindE, bindS, optE, asB, asI, G.plain, gN, gT, gTs, wipeD, Option.map, Option.bind, List.getElem?_cons_zero, List.getElem?_cons_succ, List.set_cons_zero, List.set_cons_succ, List.getElem?_nil, List.length_cons, List.length_nil, big0, big1, big2, big3, big4, big5, if_true, if_false, Bool.not_true, Bool.not_false, e1, e2, e3, e4, e5, e6, e7, endP]
end
/-! ### limited, from_numbers -/
theorem limited_eq {l : List Nat} {c : D} (hc : c = .lst (lD l) ∨ c = .tup (lD l)) (hne : l ≠ []) (hp : ∀ x ∈ l, 0 < x) (hb : ∀ x ∈ l, x < 400000) (hl : l.length < 4000) (h1 : (gens l).length ≤ 12) (h2 : ∀ x ∈ gens l, x ≤ 99) : g_limited [c] = .ok (.tup (lD (gens l))) := by
  have e1 := reduced_eq hc hne hp hb hl
  have e2 := bLen_of (c := .tup (lD (gens l))) (.inr rfl)
  have e3 := dGt_n (gens l).length 12
  rw [decide_eq_false (by omega)] at e3
  have hg : gens l ≠ [] := gens_ne (by
    cases l with
    | nil => exact absurd rfl hne
    | cons x r => exact ⟨x, List.mem_cons_self, hp x List.mem_cons_self⟩)
  have e4 : dIx (.tup (lD (gens l))) (.int (-1)) = some (nD ((gens l).getLast hg)) := by
    show L2.atI (lD (gens l)) (-1) = _
    have : 0 < (gens l).length := List.length_pos_iff.mpr hg
    unfold L2.atI
    rw [show L2.ixN (lD (gens l)).length (-1) = some ((gens l).length - 1) by
      unfold L2.ixN
      rw [List.length_map]
      simp
      omega]
    show (lD (gens l))[(gens l).length - 1]? = _
    rw [List.getElem?_map, List.getElem?_eq_getElem (by omega), ← List.getLast_eq_getElem]
    rfl
  have e5 := dGt_n ((gens l).getLast hg) 99
  rw [decide_eq_false (by have := h2 _ (List.getLast_mem hg); omega)] at e5
  have e6 : dNeg (.int 1) = some (.int (-1)) := rfl
  show endP (f_limited [.im c, .un] 0) = _
  unfold f_limited
  simp only [sSeq, sNext, sIfS, sRet, sDrop, sAsg, sPar, sAug, sAsgN, sParN, sParM, sApp, sExt, sSetIx, sFrz, sRaise, sVar, sC, sOp, sUn, sCb, sCons, sConsTw, sNil, sTup, sLst, nLst, nOp, sNw, sTest, sAnd, sOr, sNot, sAndV, sOrV, sNotV, sIf, sChain, sIxOw, sLenOw, sSl, sSlOw, sPart, sNoPart, sCallP, sCallT, liftR, noEx, sThaw, sThawT, sIsi, sFor, nSeq, nRng1, nRng2, nLc, sTick, sYes, bindE, bindS, optE, asB, asI, G.plain, gN, gT, gTs, wipeD, Option.map, Option.bind, List.getElem?_cons_zero, List.getElem?_cons_succ, List.set_cons_zero, List.set_cons_succ, List.getElem?_nil, List.length_cons, List.length_nil, e1, e2, show dGt (nD (gens l).length) (.int 12) = _ from e3, e6, e4, show dGt (nD ((gens l).getLast hg)) (.int 99) = _ from e5, endP]
end Gp
end

section
set_option linter.all false
set_option backward.match.sparseCases false
set_option maxRecDepth 100000
namespace Gp
open G PySem Sg Classical
theorem flat_lD : ∀ l : List Nat, (lD l).all flatD = true
  | [] => rfl
  | _ :: l => flat_lD l
theorem any_lD (l : List Nat) (x : Nat) : ((lD l).any fun y => eqF y (nD x)) = decide (x ∈ l) := by
  rw [List.any_map, Bool.eq_iff_iff, List.any_eq_true, decide_eq_true_iff]
  constructor
  · rintro ⟨y, hy, e⟩
    have : ((y : Int) == (x : Int)) = true := e
    rw [beq_iff_eq] at this
    have : y = x := by omega
    exact this ▸ hy
  · intro hx
    exact ⟨x, hx, by show ((x : Int) == (x : Int)) = true; rw [beq_iff_eq]⟩
theorem dIn_n {c : D} (l : List Nat) (x : Nat) (hc : c = .lst (lD l) ∨ c = .tup (lD l)) : dIn (nD x) c = some (.bl (decide (x ∈ l))) := by
  unfold dIn
  have e : inD (nD x) c = some (decide (x ∈ l)) := by
    rcases hc with rfl | rfl
    · show (if flatD (nD x) = true ∧ (lD l).all flatD = true then some ((lD l).any fun y => eqF y (nD x)) else _) = _
      rw [if_pos ⟨rfl, flat_lD l⟩, any_lD]
    · show (if flatD (nD x) = true ∧ (lD l).all flatD = true then some ((lD l).any fun y => eqF y (nD x)) else _) = _
      rw [if_pos ⟨rfl, flat_lD l⟩, any_lD]
  rw [e]
  rfl
theorem dNotIn_n {c : D} (l : List Nat) (x : Nat) (hc : c = .lst (lD l) ∨ c = .tup (lD l)) : dNotIn (nD x) c = some (.bl (decide (x ∉ l))) := by
  unfold dNotIn
  have e : inD (nD x) c = some (decide (x ∈ l)) := by
    rcases hc with rfl | rfl
    · show (if flatD (nD x) = true ∧ (lD l).all flatD = true then some ((lD l).any fun y => eqF y (nD x)) else _) = _
      rw [if_pos ⟨rfl, flat_lD l⟩, any_lD]
    · show (if flatD (nD x) = true ∧ (lD l).all flatD = true then some ((lD l).any fun y => eqF y (nD x)) else _) = _
      rw [if_pos ⟨rfl, flat_lD l⟩, any_lD]
  rw [e]
  show some (D.bl (!decide (x ∈ l))) = _
  rw [← decide_not]
theorem any_neg {l : List Nat} {i : Int} (h : i < 0) : ((lD l).any fun y => eqF y (.int i)) = false := by
  rw [Bool.eq_false_iff]
  intro hh
  rw [List.any_map, List.any_eq_true] at hh
  obtain ⟨y, _, e⟩ := hh
  have : ((y : Int) == i) = true := e
  rw [beq_iff_eq] at this
  omega
theorem dIn_neg {c : D} (l : List Nat) {i : Int} (h : i < 0) (hc : c = .lst (lD l) ∨ c = .tup (lD l)) : dIn (.int i) c = some (.bl false) := by
  unfold dIn
  have e : inD (.int i) c = some false := by
    rcases hc with rfl | rfl
    · show (if flatD (.int i) = true ∧ (lD l).all flatD = true then some ((lD l).any fun y => eqF y (.int i)) else _) = _
      rw [if_pos ⟨rfl, flat_lD l⟩, any_neg h]
    · show (if flatD (.int i) = true ∧ (lD l).all flatD = true then some ((lD l).any fun y => eqF y (.int i)) else _) = _
      rw [if_pos ⟨rfl, flat_lD l⟩, any_neg h]
  rw [e]
  rfl
theorem bMax_int {ds : List D} {ns : List Int} {M : Int} (e : intsD ds = some ns) (h1 : M ∈ ns) (h2 : ∀ y ∈ ns, y ≤ M) : bMax [.lst ds] = some (.int M) := by
  have e2 : bMax [.lst ds] = (intArg2 [.lst ds]).bind fun ns => if ns.isEmpty then none else some (.int (maxI ns)) := rfl
  rw [e2, show intArg2 [.lst ds] = some ns from e]
  have hne : ns ≠ [] := fun z => by rw [z] at h1; cases h1
  obtain ⟨h3, h4⟩ := maxI_spec _ hne
  show (if ns.isEmpty then none else some (D.int (maxI ns))) = _
  rw [if_neg (by rw [List.isEmpty_iff]; exact hne)]
  have a1 := h2 _ h3
  have a2 := h4 _ h1
  rw [show maxI ns = M by omega]
theorem intsD_app : ∀ (l : List Nat) (i : Int), intsD (lD l ++ [.int i]) = some (l.map Int.ofNat ++ [i])
  | [], i => rfl
  | x :: l, i => by
    show (intsD (lD l ++ [.int i])).map _ = _
    rw [intsD_app l i]
    rfl
/-- max(holes + [i]) -/
theorem bMax_gaps {l : List Nat} (h : Nice l) {i : Int} (hi : -1 ≤ i) : bMax [.lst (lD (gapsL l) ++ [.int i])] = some (.int (max i ((cnd l : Int) - 1))) := by
  refine bMax_int (intsD_app _ _) ?_ fun y hy => ?_
  · rcases Int.le_total ((cnd l : Int) - 1) i with e | e
    · rw [Int.max_eq_left e]
      exact List.mem_append_right _ List.mem_cons_self
    · rw [Int.max_eq_right e]
      by_cases hc : cnd l = 0
      · have : i = (cnd l : Int) - 1 := by omega
        rw [← this]
        exact List.mem_append_right _ List.mem_cons_self
      · refine List.mem_append_left _ (List.mem_map.mpr ⟨cnd l - 1, (mem_gapsL h.pos h.gcd _).mpr (cnd_gap h (by omega)), ?_⟩)
        rw [ofN]
        omega
  · rcases List.mem_append.mp hy with hy | hy
    · obtain ⟨x, hx, rfl⟩ := List.mem_map.mp hy
      have := cnd_lt h ((mem_gapsL h.pos h.gcd x).mp hx)
      rw [ofN]
      omega
    · rw [List.mem_singleton.mp hy]
      exact Int.le_max_left _ _
theorem bMax_gaps1 {l : List Nat} (h : Nice l) : bMax [.lst (lD (gapsL l) ++ [.int (-1)])] = some (.int ((cnd l : Int) - 1)) := by
  have := bMax_gaps h (i := -1) (by omega)
  rwa [Int.max_eq_right (by omega)] at this
theorem dAdd_lst {a b : List D} (h : a.length + b.length < 10000000) : dAdd (.lst a) (.lst b) = some (.lst (a ++ b)) := by
  show (if a.length + b.length < big then some (D.lst (a ++ b)) else none) = _
  rw [if_pos (big_of h)]
theorem dMul_n {a b : Nat} (h : a < 1000000000) : dMul (nD a) (nD b) = some (nD (a * b)) := by
  have : dMul (nD a) (nD b) = some (.int ((a : Int) * (b : Int))) := dMul_sm' (okI_of (by omega) (by omega))
  rw [this, ← Int.natCast_mul]
/-! ### how many generators -/
theorem gens_dist {l : List Nat} (hp : ∀ x ∈ l, 0 < x) {m x y : Nat} (hm : m ∈ l) (hm0 : 0 < m) (hx : x ∈ gens l) (hy : y ∈ gens l) (hlt : x < y) : x % m ≠ y % m := by
  intro e
  obtain ⟨k, hk⟩ := mod_le_split e (Nat.le_of_lt hlt)
  have h1 := (mem_gens hp x).mp hx
  have h2 := (mem_gens hp y).mp hy
  have hk0 : 0 < k := by
    rcases Nat.eq_zero_or_pos k with z | z
    · subst z
      omega
    · exact z
  refine h2.2.2 x (k * m) h1.1 (Nat.mul_pos hk0 hm0) h1.2.1 ((Sum.gen hm).mul k) hk.symm
theorem nodup_map_of {f : Nat → Nat} : ∀ {L : List Nat}, L.Pairwise (· < ·) → (∀ x ∈ L, ∀ y ∈ L, x < y → f x ≠ f y) → (L.map f).Nodup
  | [], _, _ => List.Pairwise.nil
  | a :: L, h, hf => by
    rw [List.map_cons]
    refine List.nodup_cons.mpr ⟨fun hm => ?_, nodup_map_of (List.Pairwise.of_cons h) fun x hx y hy => hf x (List.mem_cons_of_mem _ hx) y (List.mem_cons_of_mem _ hy)⟩
    obtain ⟨b, hb, e⟩ := List.mem_map.mp hm
    exact hf a List.mem_cons_self b (List.mem_cons_of_mem _ hb) (List.rel_of_pairwise_cons h hb) e.symm
theorem nodup_len {L : List Nat} (h : L.Nodup) {a b : Nat} (hL : ∀ x ∈ L, a ≤ x ∧ x < b) : L.length ≤ b - a := by
  have := List.Nodup.length_le_of_subset h (l₂ := (List.range (b - a)).map (a + ·)) fun x hx => List.mem_map.mpr ⟨x - a, List.mem_range.mpr (by have := hL x hx; omega), by have := hL x hx; omega⟩
  rwa [List.length_map, List.length_range] at this
theorem gens_len_le {l : List Nat} (hp : ∀ x ∈ l, 0 < x) {B : Nat} (hb : ∀ x ∈ l, x ≤ B) (hne : l ≠ []) : 2 * (gens l).length ≤ B + 1 := by
  have hg : gens l ≠ [] := gens_ne (by
    cases l with
    | nil => exact absurd rfl hne
    | cons x r => exact ⟨x, List.mem_cons_self, hp x List.mem_cons_self⟩)
  cases e : gens l with
  | nil => exact absurd e hg
  | cons m F =>
    have hs := gens_sorted l
    have hm : m ∈ gens l := by rw [e]; exact List.mem_cons_self
    have hml := gens_of hm
    have hm0 := hp m hml
    have hlo : ∀ x ∈ gens l, m ≤ x := fun x hx => by
      rw [e] at hx hs
      rcases List.mem_cons.mp hx with rfl | hx
      · exact Nat.le_refl _
      · exact Nat.le_of_lt (List.rel_of_pairwise_cons hs hx)
    have a1 := nodup_len (nodup_of_sorted hs) (a := m) (b := B + 1) fun x hx => ⟨hlo x hx, by have := hb x (gens_of hx); omega⟩
    have a2 := nodup_len (L := (gens l).map (· % m)) (nodup_map_of hs fun x hx y hy hlt => gens_dist hp hml hm0 hx hy hlt) (a := 0) (b := m) fun x hx => by
      obtain ⟨y, _, rfl⟩ := List.mem_map.mp hx
      exact ⟨Nat.zero_le _, Nat.mod_lt _ hm0⟩
    rw [List.length_map] at a2
    have a3 := hb m hml
    rw [← e]
    omega
theorem isSg_small {l : List Nat} (hne : l ≠ []) (hl : ∀ x ∈ l, 1 ≤ x ∧ x ≤ 24) (hg : gcdL l = 1) : IsSg (gens l) :=
  isSg_of hne (fun x hx => (hl x hx).1) (fun x hx => by have := hl x hx; omega) hg (by have := gens_len_le (fun x hx => (hl x hx).1) (fun x hx => (hl x hx).2) hne; omega)
theorem IsSg.min {l : List Nat} (h : IsSg l) {m : Nat} (d : Hd l m) : ∀ y ∈ l, m ≤ y := by
  have hs : l.Pairwise (· < ·) := by
    rw [← h.self]
    exact gens_sorted l
  obtain ⟨m', F, rfl, _⟩ := h.head
  have := d.at0
  cases this
  intro y hy
  rcases List.mem_cons.mp hy with rfl | hy
  · exact Nat.le_refl _
  · exact Nat.le_of_lt (List.rel_of_pairwise_cons hs hy)
theorem IsSg.sorted {l : List Nat} (h : IsSg l) : l.Pairwise (· < ·) := by
  rw [← h.self]
  exact gens_sorted l
theorem IsSg.holes {l : List Nat} (h : IsSg l) : g__law_holes [.tup (lD l)] = .ok (.lst (lD (gapsL l))) := by
  obtain ⟨m, d⟩ := h.hd
  exact holes_eq (.inr rfl) h.nice.pos h.gcd d.mem (h.min d) (by rw [d.bnd]; have := h.bound d; have := d.le; omega) (by have := h.len2; omega)
theorem lD_last {l : List Nat} (hg : l ≠ []) : dIx (.tup (lD l)) (.int (-1)) = some (nD (l.getLast hg)) := by
  show L2.atI (lD l) (-1) = _
  have : 0 < l.length := List.length_pos_iff.mpr hg
  unfold L2.atI
  rw [show L2.ixN (lD l).length (-1) = some (l.length - 1) by
    unfold L2.ixN
    rw [List.length_map]
    simp
    omega]
  show (lD l)[l.length - 1]? = _
  rw [List.getElem?_map, List.getElem?_eq_getElem (by omega), ← List.getLast_eq_getElem]
  rfl
theorem sum_mul {l : List Nat} {x : Nat} (h : x ∈ l) (k : Nat) : Sum l (x * k) := by
  rw [Nat.mul_comm]
  exact (Sum.gen h).mul k
/-- own, out of drawn numbers -/
theorem own_ok {l : List Nat} (hne : l ≠ []) (hlen : l.length ≤ 21) (hl : ∀ x ∈ l, 1 ≤ x ∧ x ≤ 24) : g__law_least_set [.lst (lD l)] = .ok (.tup (lD (gens l))) :=
  leastSet_eq (.inl rfl) (fun x hx => (hl x hx).1) (fun x hx => by have := hl x hx; omega) (by omega)
theorem pick_ok (ms : List Int) (n : Nat) {l : List Nat} (hn : n < 999999) (hl : ms.length ≤ 63) (hm : l ≠ []) : ∃ v ∈ l, g__law_pick [.d (.scr ms), .tw, .d (.tup (lD l))] n = .ok (nD v, n + 1) := by
  have hpos : 0 < l.length := List.length_pos_iff.mpr hm
  obtain ⟨v, hv, e⟩ := draw_ok ms n l.length hn hl hpos
  refine ⟨l[v], List.getElem_mem hv, ?_⟩
  have e1 := bLen_of (c := .tup (lD l)) (.inr rfl)
  have e2 := lD_ixT (l := l) (List.getElem?_eq_getElem hv)
  show endT (f__law_pick [.im (.scr ms), .tw, .im (.tup (lD l))] n) = _
  have c1 : sCallT g__law_draw (sCons (sVar 0) (sConsTw 1 (sCons (sCb bLen (sCons (sVar 2) sNil)) sNil))) [.im (.scr ms), .tw, .im (.tup (lD l))] n = .ok (nD v, n + 1) := sCallT_eq (xs := [.d (.scr ms), .tw, .d (nD l.length)]) (by simp only [sSeq, sNext, sIfS, sRet, sDrop, sAsg, sPar, sAug, sAsgN, sParN, sParM, sApp, sExt, sSetIx, sFrz, sRaise, sVar, sC, sOp, sUn, sCb, sCons, sConsTw, sNil, sTup, sLst, nLst, nOp, sNw, sTest, sAnd, sOr, sNot, sAndV, sOrV, sNotV, sIf, sChain, sIxOw, sLenOw, sSl, sSlOw, sPart, sNoPart, sCallP, sCallT, liftR, noEx, sThaw, sThawT, sIsi, sFor, nSeq, nRng1, nRng2, nLc, sTick, sYes, bindE, bindS, optE, asB, asI, G.plain, gN, gT, gTs, wipeD, Option.map, Option.bind, List.getElem?_cons_zero, List.getElem?_cons_succ, List.set_cons_zero, List.set_cons_succ, List.getElem?_nil, List.length_cons, List.length_nil, e1]) rfl e
  have c2 : f__law_pick [.im (.scr ms), .tw, .im (.tup (lD l))] n = .rt (nD l[v]) (n + 1) := sRet_eq (sOp_eq rfl c1 e2)
  rw [c2]
  rfl
end Gp
end

section
set_option linter.all false
set_option backward.match.sparseCases false
set_option maxRecDepth 100000
namespace Sg
open Classical
/-! ### symmetric semigroups, outer gaps -/
theorem count_rev (p : Nat → Bool) (n : Nat) : ((List.range n).filter p).length = ((List.range n).filter fun x => p (n - 1 - x)).length := by
  have h1 : ((List.range n).filter p).length = ((List.range n).reverse.filter p).length := by
    rw [List.filter_reverse, List.length_reverse]
  have h2 : (List.range n).reverse = (List.range n).map (n - 1 - ·) := by
    apply List.ext_getElem
    · simp
    · intro i h1 h2
      simp
  rw [h1, h2, List.filter_map, List.length_map]
  rfl
theorem len_split {p q : Nat → Bool} : ∀ L : List Nat, (L.filter p).length = (L.filter fun x => p x && q x).length + (L.filter fun x => p x && !q x).length
  | [] => rfl
  | a :: L => by
    have ih := len_split (p := p) (q := q) L
    cases hp : p a <;> cases hq : q a <;> simp [List.filter_cons, hp, hq, ih] <;> omega
/-- the pairs of gaps with the greatest gap as their sum -/
noncomputable def oddL (l : List Nat) : List Nat := (List.range (cnd l)).filter fun x => noS l x && noS l (cnd l - 1 - x)
section
variable {l : List Nat}
theorem noS_iff {n : Nat} : noS l n = true ↔ ¬ Sum l n := by
  unfold noS
  rw [decide_eq_true_iff]
theorem gapsL_cnd (h : Nice l) : gapsL l = (List.range (cnd l)).filter (noS l) := gapsL_eq h.pos h.gcd fun n hn => cnd_sum h hn
theorem both_not (h : Nice l) {x : Nat} (hx : x < cnd l) (h1 : Sum l x) (h2 : Sum l (cnd l - 1 - x)) : False := by
  have := h1.plus h2
  rw [show x + (cnd l - 1 - x) = cnd l - 1 by omega] at this
  exact cnd_gap h (by omega) this
theorem sym_count (h : Nice l) : 2 * (gapsL l).length = cnd l + (oddL l).length := by
  have h1 := len_split (p := noS l) (q := fun x => noS l (cnd l - 1 - x)) (List.range (cnd l))
  have h2 := len_split (p := fun _ => true) (q := noS l) (List.range (cnd l))
  have h3 : ((List.range (cnd l)).filter fun _ => true).length = cnd l := by
    rw [List.filter_eq_self.mpr fun _ _ => rfl, List.length_range]
  have h4 := count_rev (fun x => noS l x && !noS l (cnd l - 1 - x)) (cnd l)
  have h5 : ((List.range (cnd l)).filter fun x => noS l (cnd l - 1 - x) && !noS l (cnd l - 1 - (cnd l - 1 - x))) = (List.range (cnd l)).filter fun x => true && !noS l x := by
    apply List.filter_congr
    intro x hx
    rw [List.mem_range] at hx
    rw [show cnd l - 1 - (cnd l - 1 - x) = x by omega]
    rcases Classical.em (Sum l x) with s | s
    · have : ¬ Sum l (cnd l - 1 - x) := fun z => both_not h hx s z
      rw [noS_iff.mpr this]
    · rw [noS_iff.mpr s]
      simp
  have h6 : ((List.range (cnd l)).filter fun x => true && noS l x) = (List.range (cnd l)).filter (noS l) := by
    apply List.filter_congr
    intro x _
    rfl
  rw [h5] at h4
  rw [gapsL_cnd h]
  unfold oddL
  rw [h6, h3] at h2
  omega
theorem sym_iff (h : Nice l) : 2 * (gapsL l).length = cnd l ↔ ∀ x, x < cnd l → ¬ Sum l x → Sum l (cnd l - 1 - x) := by
  rw [sym_count h]
  constructor
  · intro e x hx hs
    have h0 : oddL l = [] := List.length_eq_zero_iff.mp (by omega)
    rcases Classical.em (Sum l (cnd l - 1 - x)) with s | s
    · exact s
    · have : x ∈ oddL l := List.mem_filter.mpr ⟨List.mem_range.mpr hx, by rw [noS_iff.mpr hs, noS_iff.mpr s]; rfl⟩
      rw [h0] at this
      cases this
  · intro hh
    have h0 : oddL l = [] := by
      apply List.eq_nil_iff_forall_not_mem.mpr
      intro x hx
      obtain ⟨h1, h2⟩ := List.mem_filter.mp hx
      rw [Bool.and_eq_true, noS_iff, noS_iff] at h2
      exact h2.2 (hh x (List.mem_range.mp h1) h2.1)
    rw [h0]
    rfl
/-- an outer gap -/
def Out (l : List Nat) (g : Nat) : Prop := ¬ Sum l g ∧ ∀ s, 0 < s → Sum l s → Sum l (g + s)
noncomputable def outL (l : List Nat) : List Nat := (gapsL l).filter fun g => decide (∀ x ∈ l, Sum l (g + x))
theorem out_gens (h : Nice l) {g : Nat} : (∀ x ∈ l, Sum l (g + x)) ↔ ∀ s, 0 < s → Sum l s → Sum l (g + s) := by
  constructor
  · intro hh s hs hS
    rcases hS.last with e | ⟨y, w, hy, hw, e⟩
    · omega
    · rw [e, show g + (w + y) = (g + y) + w by omega]
      exact (hh y hy).plus hw
  · intro hh x hx
    exact hh x (h.pos x hx) (.gen hx)
theorem mem_outL (h : Nice l) {g : Nat} : g ∈ outL l ↔ Out l g := by
  unfold outL Out
  rw [List.mem_filter, mem_gapsL h.pos h.gcd, decide_eq_true_iff, out_gens h]
theorem outL_sorted : (outL l).Pairwise (· < ·) := (gapsL_sorted l).filter _
theorem out_last (h : Nice l) (hc : 0 < cnd l) : Out l (cnd l - 1) := ⟨cnd_gap h hc, fun s hs _ => cnd_sum h (by omega)⟩
/-- above each gap there is an outer gap -/
theorem out_above (h : Nice l) : ∀ (k x : Nat), cnd l ≤ x + k → ¬ Sum l x → ∃ s, Sum l s ∧ Out l (x + s)
  | 0, x, hk, hx => absurd (cnd_sum h (by omega)) hx
  | k + 1, x, hk, hx => by
    rcases Classical.em (∃ s, 0 < s ∧ Sum l s ∧ ¬ Sum l (x + s)) with ⟨s, h1, h2, h3⟩ | hn
    · obtain ⟨t, ht, ho⟩ := out_above h k (x + s) (by omega) h3
      exact ⟨s + t, h2.plus ht, by rw [show x + (s + t) = x + s + t by omega]; exact ho⟩
    · refine ⟨0, .zero, hx, fun s hs hS => ?_⟩
      rcases Classical.em (Sum l (x + s)) with z | z
      · exact z
      · exact absurd ⟨s, hs, hS, z⟩ hn
theorem sym_out (h : Nice l) (hc : 0 < cnd l) : 2 * (gapsL l).length = cnd l ↔ (outL l).length = 1 := by
  rw [sym_iff h]
  have hl := (mem_outL h).mpr (out_last h hc)
  constructor
  · intro hh
    have h1 : outL l = [cnd l - 1] := by
      refine sorted_ext outL_sorted (List.pairwise_singleton _ _) fun k => ?_
      rw [mem_outL h, List.mem_singleton]
      constructor
      · intro ho
        have hk := cnd_lt h ho.1
        rcases Nat.eq_or_lt_of_le (show k ≤ cnd l - 1 by omega) with e | e
        · exact e
        · have := ho.2 (cnd l - 1 - k) (by omega) (hh k hk ho.1)
          rw [show k + (cnd l - 1 - k) = cnd l - 1 by omega] at this
          exact absurd this (cnd_gap h hc)
      · rintro rfl
        exact out_last h hc
    rw [h1]
    rfl
  · intro h1 x hx hs
    obtain ⟨a, ha⟩ := List.length_eq_one_iff.mp h1
    obtain ⟨s, h2, h3⟩ := out_above h (cnd l) x (by omega) hs
    have e1 := (mem_outL h).mpr h3
    rw [ha, List.mem_singleton] at e1 hl
    rw [show cnd l - 1 - x = s by omega]
    exact h2
/-- outer gaps by least elements -/
theorem out_least (h : Nice l) {m : Nat} (hm : 0 < m) (he : Sum l m) {g : Nat} : Out l g ↔ (¬ Sum l g ∧ g + m ∈ lvs l m ∧ ∀ w ∈ lvs l m, g + m < w → ¬ Sum l (w - (g + m))) := by
  have hmem : ∀ w, w ∈ lvs l m ↔ (Sum l w ∧ (m ≤ w → ¬ Sum l (w - m))) := fun w => by
    constructor
    · intro hw
      obtain ⟨r, hr, e⟩ := List.mem_map.mp hw
      rw [List.mem_range] at hr
      have h1 := lv_mod h hm hr
      rw [e] at h1
      refine ⟨e ▸ lv_sum h hm hr, fun hle hs => ?_⟩
      have h2 := lv_le h hm hs
      rw [← Nat.mod_eq_sub_mod hle, h1, e] at h2
      omega
    · rintro ⟨h1, h2⟩
      have hr := Nat.mod_lt w hm
      refine List.mem_map.mpr ⟨w % m, List.mem_range.mpr hr, ?_⟩
      have h3 := lv_le h hm h1
      rcases Nat.eq_or_lt_of_le h3 with e | e
      · exact e
      · obtain ⟨k, hk⟩ := mod_le_split (lv_mod h hm hr) h3
        have hk0 : 0 < k := by
          rcases Nat.eq_zero_or_pos k with z | z
          · subst z
            omega
          · exact z
        have : m ≤ k * m := Nat.le_mul_of_pos_left m hk0
        refine absurd ?_ (h2 (by omega))
        have h4 : w - m = lv l m (w % m) + (k - 1) * m := by
          rw [Nat.sub_mul, Nat.one_mul]
          omega
        rw [h4]
        exact add_mul_sum he (lv_sum h hm hr) _
  constructor
  · intro ho
    refine ⟨ho.1, (hmem _).mpr ⟨ho.2 m hm he, fun _ => by rw [Nat.add_sub_cancel]; exact ho.1⟩, fun w hw hlt hs => ?_⟩
    have h1 := ((hmem w).mp hw).2 (by omega)
    have h2 := ho.2 (w - (g + m)) (by omega) hs
    rw [show g + (w - (g + m)) = w - m by omega] at h2
    exact h1 h2
  · rintro ⟨h1, h2, h3⟩
    refine ⟨h1, fun s hs hS => ?_⟩
    rcases Classical.em (Sum l (g + s)) with z | z
    · exact z
    · have hw : g + m + s ∈ lvs l m := (hmem _).mpr ⟨((hmem _).mp h2).1.plus hS, fun _ => by rw [show g + m + s - m = g + s by omega]; exact z⟩
      have := h3 _ hw (by omega)
      rw [Nat.add_sub_cancel_left] at this
      exact absurd hS this
end
end Sg
end

section
set_option linter.all false
set_option backward.match.sparseCases false
set_option maxRecDepth 100000
namespace Gp
open G PySem Sg Classical
theorem nLc_n {it : SIg τ} {tg : SG} {ft : STg τ} {fe : SEg τ} {vs : List Nat} {s : SD} {n : τ} {l : List Nat} (hit : it s n = .ok (lD l, n)) (hb : l.length < 10000000) (p : Nat → Bool) (h : Nat → D) (hh : ∀ x ∈ l, ∃ s1, tg (nD x) (wipeD s vs) = some s1 ∧ ft s1 n = .ok (p x, n) ∧ (p x = true → fe s1 n = .ok (h x, n))) : nLc it tg ft fe vs s n = .ok ((l.filter p).map h, n) :=
  (nLc_eq hit (by rw [List.length_map]; exact hb)).trans (compR_ifL p h hh)
theorem nLc_m {it : SIg τ} {tg : SG} {fe : SEg τ} {vs : List Nat} {s : SD} {n : τ} {l : List Nat} (hit : it s n = .ok (lD l, n)) (hb : l.length < 10000000) (h : Nat → D) (hh : ∀ x ∈ l, ∃ s1, tg (nD x) (wipeD s vs) = some s1 ∧ fe s1 n = .ok (h x, n)) : nLc it tg sYes fe vs s n = .ok (l.map h, n) :=
  (nLc_eq hit (by rw [List.length_map]; exact hb)).trans (compR_lD h hh)
theorem all_decide {l : List Nat} (p : Nat → Prop) : (l.all fun x => decide (p x)) = decide (∀ x ∈ l, p x) := by
  rw [Bool.eq_iff_iff, List.all_eq_true, decide_eq_true_iff]
  constructor
  · exact fun h x hx => of_decide_eq_true (h x hx)
  · exact fun h x hx => decide_eq_true (h x hx)
section
variable {l : List Nat}
theorem IsSg.lvTest (h : IsSg l) {m : Nat} (d : Hd l m) (n : Nat) : dMod (nD n) (nD m) = some (nD (n % m)) ∧ dIx (.lst (lD (lvs l m))) (nD (n % m)) = some (nD (lv l m (n % m))) ∧ dLe (nD (lv l m (n % m))) (nD n) = some (.bl (decide (Sum l n))) := by
  refine ⟨dMod_n d.pos, lvs_ix (Nat.mod_lt n d.pos), ?_⟩
  rw [dLe_n]
  have e7 : decide (lv l m (n % m) ≤ n) = decide (Sum l n) := decide_eq_decide.mpr (sum_lv h.nice d.pos d.sum n).symm
  rw [e7]
abbrev ouT : ST := sTest (sCb bAll (sCons (sNw (nLc (nSeq (sVar 0)) (gN 5) sYes (sOp dLe (sOp dIx (sVar 2) (sOp dMod (sOp dAdd (sVar 4) (sVar 5)) (sVar 1))) (sOp dAdd (sVar 4) (sVar 5))) [5])) sNil))
theorem ou_test (h : IsSg l) {m : Nat} (d : Hd l m) (g : Nat) (x3 x5 : SV) : ouT [.im (.tup (lD l)), .im (nD m), .im (.lst (lD (lvs l m))), x3, .im (nD g), x5] 0 = .ok (decide (∀ x ∈ l, Sum l (g + x)), 0) := by
  have c1 : nLc (nSeq (sVar 0)) (gN 5) sYes (sOp dLe (sOp dIx (sVar 2) (sOp dMod (sOp dAdd (sVar 4) (sVar 5)) (sVar 1))) (sOp dAdd (sVar 4) (sVar 5))) [5] [.im (.tup (lD l)), .im (nD m), .im (.lst (lD (lvs l m))), x3, .im (nD g), x5] 0 = .ok (l.map fun x => D.bl (decide (Sum l (g + x))), 0) :=
    nLc_m (by simp only [sSeq, sNext, sIfS, sRet, sDrop, sAsg, sPar, sAug, sAsgN, sParN, sParM, sApp, sExt, sSetIx, sFrz, sRaise, sVar, sC, sOp, sUn, sCb, sCons, sConsTw, sNil, sTup, sLst, nLst, nOp, sNw, sTest, sAnd, sOr, sNot, sAndV, sOrV, sNotV, sIf, sChain, sIxOw, sLenOw, sSl, sSlOw, sPart, sNoPart, sCallP, sCallT, liftR, noEx, sThaw, sThawT, sIsi, sFor, nSeq, nRng1, nRng2, nLc, sTick, sYes, bindE, bindS, optE, asB, asI, G.plain, gN, gT, gTs, wipeD, Option.map, Option.bind, List.getElem?_cons_zero, List.getElem?_cons_succ, List.set_cons_zero, List.set_cons_succ, List.getElem?_nil, List.length_cons, List.length_nil, seqOf]) (by have := h.len2; omega) _ fun x hx => ⟨_, rfl, by
      obtain ⟨t1, t2, t3⟩ := h.lvTest d (g + x)
      simp only [sSeq, sNext, sIfS, sRet, sDrop, sAsg, sPar, sAug, sAsgN, sParN, sParM, sApp, sExt, sSetIx, sFrz, sRaise, sVar, sC, sOp, sUn, sCb, sCons, sConsTw, sNil, sTup, sLst, nLst, nOp, sNw, sTest, sAnd, sOr, sNot, sAndV, sOrV, sNotV, sIf, sChain, sIxOw, sLenOw, sSl, sSlOw, sPart, sNoPart, sCallP, sCallT, liftR, noEx, sThaw, sThawT, sIsi, sFor, nSeq, nRng1, nRng2, nLc, sTick, sYes, bindE, bindS, optE, asB, asI, G.plain, gN, gT, gTs, wipeD, Option.map, Option.bind, List.getElem?_cons_zero, List.getElem?_cons_succ, List.set_cons_zero, List.set_cons_succ, List.getElem?_nil, List.length_cons, List.length_nil, dAdd_n, t1, t2, t3]⟩
  have c2 := bAll_of (l := l) fun x => decide (Sum l (g + x))
  rw [all_decide] at c2
  simp only [sSeq, sNext, sIfS, sRet, sDrop, sAsg, sPar, sAug, sAsgN, sParN, sParM, sApp, sExt, sSetIx, sFrz, sRaise, sVar, sC, sOp, sUn, sCb, sCons, sConsTw, sNil, sTup, sLst, nLst, nOp, sNw, sTest, sAnd, sOr, sNot, sAndV, sOrV, sNotV, sIf, sChain, sIxOw, sLenOw, sSl, sSlOw, sPart, sNoPart, sCallP, liftR, noEx, sThaw, sThawT, sIsi, nSeq, sTick, sYes, bindE, bindS, optE, asB, asI, G.plain, gN, gT, gTs, wipeD, Option.map, Option.bind, List.getElem?_cons_zero, List.getElem?_cons_succ, List.set_cons_zero, List.set_cons_succ, List.getElem?_nil, List.length_cons, List.length_nil, big0, big1, big2, big3, big4, big5, if_true, if_false, Bool.not_true, Bool.not_false, c1, c2]
theorem filter_take {p : Nat → Bool} {L : List Nat} {i x : Nat} (h : L[i]? = some x) : (L.take (i + 1)).filter p = (L.take i).filter p ++ (if p x = true then [x] else []) := by
  rw [List.take_add_one, h, List.filter_append]
  show _ ++ List.filter p [x] = _
  cases hp : p x <;> simp [List.filter, hp]
theorem IsSg.outer (h : IsSg l) : g_outer_of [.tup (lD l)] = .ok (.lst (lD (outL l))) := by
  obtain ⟨m, d⟩ := h.hd
  have e1 := lD_ix0 d.at0
  have e2 : g_least_by [.tup (lD l), nD m] = _ := least_full (.inr rfl) h.nice d.pos (by have := d.le; omega)
  have e3 := h.gapl
  obtain ⟨s', e, y4, y5, es⟩ := loopS_inv0 (tg := gN 4) (f := sIfS ouT (sApp 3 (sVar 4)) sNext) (n := 0)
    (fun i s => ∃ y4 y5, s = [.im (.tup (lD l)), .im (nD m), .im (.lst (lD (lvs l m))), .ow (lD (((gapsL l).take i).filter fun g => decide (∀ x ∈ l, Sum l (g + x)))), y4, y5]) (ds := lD (gapsL l)) (s := [.im (.tup (lD l)), .im (nD m), .im (.lst (lD (lvs l m))), .ow [], .un, .un]) ⟨.un, .un, rfl⟩ fun i dd s hi hI => by
      obtain ⟨x, hx, ed⟩ := lD_get hi
      obtain ⟨y4, y5, es⟩ := hI
      subst ed es
      have t := ou_test h d x (.ow (lD (((gapsL l).take i).filter fun g => decide (∀ x ∈ l, Sum l (g + x))))) y5
      refine ⟨_, _, rfl, ?_, .im (nD x), y5, rfl⟩
      rw [filter_take hx]
      by_cases hp : ∀ y ∈ l, Sum l (x + y)
      · rw [decide_eq_true hp] at t
        rw [if_pos (decide_eq_true hp), lD_append]
        refine (sIfS_t t).trans (sApp_eq (ds := lD (((gapsL l).take i).filter fun g => decide (∀ x ∈ l, Sum l (g + x)))) rfl rfl ?_)
        rw [List.length_map]
        have h1 := List.length_filter_le (fun g => decide (∀ x ∈ l, Sum l (g + x))) ((gapsL l).take i)
        have h2 := List.length_take_le i (gapsL l)
        have h3 := h.len_gaps
        have h4 : ((gapsL l).take i).length ≤ (gapsL l).length := by rw [List.length_take]; omega
        omega
      · rw [decide_eq_false hp] at t
        rw [if_neg (by rw [decide_eq_false hp]; decide), List.append_nil]
        exact sIfS_f t
  rw [List.length_map, List.take_length] at es
  have a1 : sFor (nSeq (sCallP g_gap_list (sCons (sVar 0) sNil))) (gN 4) (sIfS ouT (sApp 3 (sVar 4)) sNext) [.im (.tup (lD l)), .im (nD m), .im (.lst (lD (lvs l m))), .ow [], .un, .un] 0 = .nx s' 0 := (sFor_eq (ds := lD (gapsL l)) (n1 := 0) (by simp only [sSeq, sNext, sIfS, sRet, sDrop, sAsg, sPar, sAug, sAsgN, sParN, sParM, sApp, sExt, sSetIx, sFrz, sRaise, sVar, sC, sOp, sUn, sCb, sCons, sConsTw, sNil, sTup, sLst, nLst, nOp, sNw, sTest, sAnd, sOr, sNot, sAndV, sOrV, sNotV, sIf, sChain, sIxOw, sLenOw, sSl, sSlOw, sPart, sNoPart, sCallP, sCallT, liftR, noEx, sThaw, sThawT, sIsi, sFor, nSeq, nRng1, nRng2, nLc, sTick, sYes, bindE, bindS, optE, asB, asI, G.plain, gN, gT, gTs, wipeD, Option.map, Option.bind, List.getElem?_cons_zero, List.getElem?_cons_succ, List.set_cons_zero, List.set_cons_succ, List.getElem?_nil, List.length_cons, List.length_nil, e3, seqOf])).trans e
  have a2 : f_outer_of [.im (.tup (lD l)), .un, .un, .un, .un, .un] 0 = .rt (.lst (lD (outL l))) 0 := by
    unfold f_outer_of
    refine (sSeq_nx (s' := [.im (.tup (lD l)), .im (nD m), .un, .un, .un, .un]) (n' := 0) (by simp only [sSeq, sNext, sIfS, sRet, sDrop, sAsg, sPar, sAug, sAsgN, sParN, sParM, sApp, sExt, sSetIx, sFrz, sRaise, sVar, sC, sOp, sUn, sCb, sCons, sConsTw, sNil, sTup, sLst, nLst, nOp, sNw, sTest, sAnd, sOr, sNot, sAndV, sOrV, sNotV, sIf, sChain, sIxOw, sLenOw, sSl, sSlOw, sPart, sNoPart, sCallP, liftR, noEx, sThaw, sThawT, sIsi, nSeq, sTick, sYes, bindE, bindS, optE, asB, asI, G.plain, gN, gT, gTs, wipeD, Option.map, Option.bind, List.getElem?_cons_zero, List.getElem?_cons_succ, List.set_cons_zero, List.set_cons_succ, List.getElem?_nil, List.length_cons, List.length_nil, big0, big1, big2, big3, big4, big5, if_true, if_false, Bool.not_true, Bool.not_false, e1])).trans ?_
    refine (sSeq_nx (s' := [.im (.tup (lD l)), .im (nD m), .im (.lst (lD (lvs l m))), .ow [], .un, .un]) (n' := 0) (by simp only [sSeq, sNext, sIfS, sRet, sDrop, sAsg, sPar, sAug, sAsgN, sParN, sParM, sApp, sExt, sSetIx, sFrz, sRaise, sVar, sC, sOp, sUn, sCb, sCons, sConsTw, sNil, sTup, sLst, nLst, nOp, sNw, sTest, sAnd, sOr, sNot, sAndV, sOrV, sNotV, sIf, sChain, sIxOw, sLenOw, sSl, sSlOw, sPart, sNoPart, sCallP, liftR, noEx, sThaw, sThawT, sIsi, nSeq, sTick, sYes, bindE, bindS, optE, asB, asI, G.plain, gN, gT, gTs, wipeD, Option.map, Option.bind, List.getElem?_cons_zero, List.getElem?_cons_succ, List.set_cons_zero, List.set_cons_succ, List.getElem?_nil, List.length_cons, List.length_nil, big0, big1, big2, big3, big4, big5, if_true, if_false, Bool.not_true, Bool.not_false, e2])).trans ?_
    refine (sSeq_nx a1).trans ?_
    rw [es]
    rfl
  show endP (f_outer_of [.im (.tup (lD l)), .un, .un, .un, .un, .un] 0) = _
  rw [a2]
  rfl
theorem IsSg.outg (h : IsSg l) : g_outer_gaps [.tup (lD l)] = .ok (.lst (lD (outL l))) := by
  have e1 := h.check
  have e2 := h.outer
  show endP (f_outer_gaps [.im (.tup (lD l))] 0) = _
  unfold f_outer_gaps
  simp only [sSeq, sNext, sIfS, sRet, sDrop, sAsg, sPar, sAug, sAsgN, sParN, sParM, sApp, sExt, sSetIx, sFrz, sRaise, sVar, sC, sOp, sUn, sCb, sCons, sConsTw, sNil, sTup, sLst, nLst, nOp, sNw, sTest, sAnd, sOr, sNot, sAndV, sOrV, sNotV, sIf, sChain, sIxOw, sLenOw, sSl, sSlOw, sPart, sNoPart, sCallP, sCallT, liftR, noEx, sThaw, sThawT, sIsi, sFor, nSeq, nRng1, nRng2, nLc, sTick, sYes, bindE, bindS, optE, asB, asI, G.plain, gN, gT, gTs, wipeD, Option.map, Option.bind, List.getElem?_cons_zero, List.getElem?_cons_succ, List.set_cons_zero, List.set_cons_succ, List.getElem?_nil, List.length_cons, List.length_nil, e1, e2, endP]
end
end Gp
end

section
set_option linter.all false
set_option backward.match.sparseCases false
set_option maxRecDepth 100000
namespace Gp
open G PySem Sg Classical
/-! ### what is no semigroup -/
theorem bLen_tup {ds : List D} : bLen [.tup ds] = some (nD ds.length) := rfl
theorem bAll_D {ds : List D} (p : D → Bool) : bAll [.lst (ds.map fun d => D.bl (p d))] = some (.bl (ds.all p)) := by
  have e1 : blArg [.lst (ds.map fun x => D.bl (p x))] = some (ds.map p) := by
    show blsD (ds.map fun x => D.bl (p x)) = _
    rw [show (ds.map fun x => D.bl (p x)) = (ds.map p).map D.bl by rw [List.map_map]; rfl]
    exact blsD_map _
  unfold bAll
  rw [e1]
  show some (D.bl ((ds.map p).all id)) = _
  rw [List.all_map]
  rfl
abbrev isA : ST := sOr (sNot (sTest (sIsi "tuple" (sVar 0)))) (sNot (sTest (sChain dLe dLe (sC (.int 1)) (sCb bLen (sCons (sVar 0) sNil)) (sC (.int 12)))))
abbrev isC : SN := nLc (nSeq (sVar 0)) (gN 1) sYes (sCallP g_is_integer (sCons (sVar 1) (sCons (sC (.int 1)) (sCons (sC (.int 99)) sNil)))) [1]
theorem is_len (ds : List D) : isA [.im (.tup ds), .un] 0 = .ok (decide (¬ (1 ≤ ds.length ∧ ds.length ≤ 12)), 0) := by
  have i1 : isiT "tuple" (.tup ds) = some true := rfl
  have e2 : dLe (.int 1) (nD ds.length) = _ := dLe_n 1 ds.length
  have e3 : dLe (nD ds.length) (.int 12) = _ := dLe_n ds.length 12
  by_cases h1 : 1 ≤ ds.length
  · rw [decide_eq_true h1] at e2
    by_cases h2 : ds.length ≤ 12
    · rw [decide_eq_true h2] at e3
      rw [decide_eq_false (by rw [Classical.not_not]; exact ⟨h1, h2⟩)]
      simp only [sSeq, sNext, sIfS, sRet, sDrop, sAsg, sPar, sAug, sAsgN, sParN, sParM, sApp, sExt, sSetIx, sFrz, sRaise, sVar, sC, sOp, sUn, sCb, sCons, sConsTw, sNil, sTup, sLst, nLst, nOp, sNw, sTest, sAnd, sOr, sNot, sAndV, sOrV, sNotV, sIf, sChain, sIxOw, sLenOw, sSl, sSlOw, sPart, sNoPart, sCallP, sCallT, liftR, noEx, sThaw, sThawT, sIsi, sFor, nSeq, nRng1, nRng2, nLc, sTick, sYes, bindE, bindS, optE, asB, asI, G.plain, gN, gT, gTs, wipeD, Option.map, Option.bind, List.getElem?_cons_zero, List.getElem?_cons_succ, List.set_cons_zero, List.set_cons_succ, List.getElem?_nil, List.length_cons, List.length_nil, big0, big1, big2, big3, big4, big5, if_true, if_false, Bool.not_true, Bool.not_false, i1, bLen_tup, e2, e3]
    · rw [decide_eq_false h2] at e3
      rw [decide_eq_true (p := ¬ (1 ≤ ds.length ∧ ds.length ≤ 12)) (fun z => h2 z.2)]
      simp only [sSeq, sNext, sIfS, sRet, sDrop, sAsg, sPar, sAug, sAsgN, sParN, sParM, sApp, sExt, sSetIx, sFrz, sRaise, sVar, sC, sOp, sUn, sCb, sCons, sConsTw, sNil, sTup, sLst, nLst, nOp, sNw, sTest, sAnd, sOr, sNot, sAndV, sOrV, sNotV, sIf, sChain, sIxOw, sLenOw, sSl, sSlOw, sPart, sNoPart, sCallP, sCallT, liftR, noEx, sThaw, sThawT, sIsi, sFor, nSeq, nRng1, nRng2, nLc, sTick, sYes, bindE, bindS, optE, asB, asI, G.plain, gN, gT, gTs, wipeD, Option.map, Option.bind, List.getElem?_cons_zero, List.getElem?_cons_succ, List.set_cons_zero, List.set_cons_succ, List.getElem?_nil, List.length_cons, List.length_nil, big0, big1, big2, big3, big4, big5, if_true, if_false, Bool.not_true, Bool.not_false, i1, bLen_tup, e2, e3]
  · rw [decide_eq_false h1] at e2
    rw [decide_eq_true (p := ¬ (1 ≤ ds.length ∧ ds.length ≤ 12)) (fun z => h1 z.1)]
    simp only [sSeq, sNext, sIfS, sRet, sDrop, sAsg, sPar, sAug, sAsgN, sParN, sParM, sApp, sExt, sSetIx, sFrz, sRaise, sVar, sC, sOp, sUn, sCb, sCons, sConsTw, sNil, sTup, sLst, nLst, nOp, sNw, sTest, sAnd, sOr, sNot, sAndV, sOrV, sNotV, sIf, sChain, sIxOw, sLenOw, sSl, sSlOw, sPart, sNoPart, sCallP, sCallT, liftR, noEx, sThaw, sThawT, sIsi, sFor, nSeq, nRng1, nRng2, nLc, sTick, sYes, bindE, bindS, optE, asB, asI, G.plain, gN, gT, gTs, wipeD, Option.map, Option.bind, List.getElem?_cons_zero, List.getElem?_cons_succ, List.set_cons_zero, List.set_cons_succ, List.getElem?_nil, List.length_cons, List.length_nil, big0, big1, big2, big3, big4, big5, if_true, if_false, Bool.not_true, Bool.not_false, i1, bLen_tup, e2]
theorem is_comp {ds : List D} {p : D → Bool} (hb : ds.length < 10000000) (hp : ∀ d ∈ ds, g_is_integer [d, .int 1, .int 99] = .ok (.bl (p d))) : isC [.im (.tup ds), .un] 0 = .ok (ds.map fun d => D.bl (p d), 0) := by
  refine (nLc_eq (ds := ds) (n1 := 0) (by simp only [sSeq, sNext, sIfS, sRet, sDrop, sAsg, sPar, sAug, sAsgN, sParN, sParM, sApp, sExt, sSetIx, sFrz, sRaise, sVar, sC, sOp, sUn, sCb, sCons, sConsTw, sNil, sTup, sLst, nLst, nOp, sNw, sTest, sAnd, sOr, sNot, sAndV, sOrV, sNotV, sIf, sChain, sIxOw, sLenOw, sSl, sSlOw, sPart, sNoPart, sCallP, liftR, noEx, sThaw, sThawT, sIsi, nSeq, sTick, sYes, bindE, bindS, optE, asB, asI, G.plain, gN, gT, gTs, wipeD, Option.map, Option.bind, List.getElem?_cons_zero, List.getElem?_cons_succ, List.set_cons_zero, List.set_cons_succ, List.getElem?_nil, List.length_cons, List.length_nil, big0, big1, big2, big3, big4, big5, if_true, if_false, Bool.not_true, Bool.not_false, seqOf]) hb).trans ?_
  exact compR_all _ ds fun d hd => ⟨_, rfl, by simp only [sSeq, sNext, sIfS, sRet, sDrop, sAsg, sPar, sAug, sAsgN, sParN, sParM, sApp, sExt, sSetIx, sFrz, sRaise, sVar, sC, sOp, sUn, sCb, sCons, sConsTw, sNil, sTup, sLst, nLst, nOp, sNw, sTest, sAnd, sOr, sNot, sAndV, sOrV, sNotV, sIf, sChain, sIxOw, sLenOw, sSl, sSlOw, sPart, sNoPart, sCallP, liftR, noEx, sThaw, sThawT, sIsi, nSeq, sTick, sYes, bindE, bindS, optE, asB, asI, G.plain, gN, gT, gTs, wipeD, Option.map, Option.bind, List.getElem?_cons_zero, List.getElem?_cons_succ, List.set_cons_zero, List.set_cons_succ, List.getElem?_nil, List.length_cons, List.length_nil, big0, big1, big2, big3, big4, big5, if_true, if_false, Bool.not_true, Bool.not_false, hp d hd]⟩
theorem isSg_bad {ds : List D} {p : D → Bool} (hb : ds.length < 10000000) (hp : ∀ d ∈ ds, g_is_integer [d, .int 1, .int 99] = .ok (.bl (p d))) (hbad : ds.all p = false) : g_is_semigroup [.tup ds] = .ok (.bl false) := by
  have e1 := is_len ds
  have e2 := is_comp hb hp
  have e3 := bAll_D (ds := ds) p
  rw [hbad] at e3
  show endP (f_is_semigroup [.im (.tup ds), .un] 0) = _
  have e : f_is_semigroup [.im (.tup ds), .un] 0 = .rt (.bl false) 0 := by
    unfold f_is_semigroup
    by_cases hl : 1 ≤ ds.length ∧ ds.length ≤ 12
    · rw [decide_eq_false (by rw [Classical.not_not]; exact hl)] at e1
      refine (sSeq_nx ((sIfS_f e1).trans rfl)).trans (sSeq_rt ?_)
      simp only [sSeq, sNext, sIfS, sRet, sDrop, sAsg, sPar, sAug, sAsgN, sParN, sParM, sApp, sExt, sSetIx, sFrz, sRaise, sVar, sC, sOp, sUn, sCb, sCons, sConsTw, sNil, sTup, sLst, nLst, nOp, sNw, sTest, sAnd, sOr, sNot, sAndV, sOrV, sNotV, sIf, sChain, sIxOw, sLenOw, sSl, sSlOw, sPart, sNoPart, sCallP, liftR, noEx, sThaw, sThawT, sIsi, nSeq, sTick, sYes, bindE, bindS, optE, asB, asI, G.plain, gN, gT, gTs, wipeD, Option.map, Option.bind, List.getElem?_cons_zero, List.getElem?_cons_succ, List.set_cons_zero, List.set_cons_succ, List.getElem?_nil, List.length_cons, List.length_nil, big0, big1, big2, big3, big4, big5, if_true, if_false, Bool.not_true, Bool.not_false, e2, e3]
    · rw [decide_eq_true hl] at e1
      exact sSeq_rt ((sIfS_t e1).trans rfl)
  rw [e]
  rfl
theorem isSg_long {ds : List D} (h : ¬ (1 ≤ ds.length ∧ ds.length ≤ 12)) : g_is_semigroup [.tup ds] = .ok (.bl false) := by
  have e1 := is_len ds
  rw [decide_eq_true h] at e1
  show endP (f_is_semigroup [.im (.tup ds), .un] 0) = _
  have e : f_is_semigroup [.im (.tup ds), .un] 0 = .rt (.bl false) 0 := sSeq_rt ((sIfS_t e1).trans rfl)
  rw [e]
  rfl
theorem isSg_ngcd {l : List Nat} (h1 : 1 ≤ l.length) (h2 : l.length ≤ 12) (lo : ∀ x ∈ l, 1 ≤ x) (hi : ∀ x ∈ l, x ≤ 99) (hg : gcdL l ≠ 1) : g_is_semigroup [.tup (lD l)] = .ok (.bl false) := by
  have e1 := is_len (lD l)
  rw [decide_eq_false (by rw [Classical.not_not, List.length_map]; exact ⟨h1, h2⟩)] at e1
  have e2 := is_comp (ds := lD l) (p := fun _ => true) (by rw [List.length_map]; omega) fun d hd => by
    obtain ⟨x, hx, rfl⟩ := lD_mem hd
    have := isInt_eq x 1 99
    rwa [decide_eq_true ⟨lo x hx, hi x hx⟩] at this
  have e3 := bAll_D (ds := lD l) fun _ => true
  rw [show ((lD l).all fun _ => true) = true from List.all_eq_true.mpr fun _ _ => rfl] at e3
  have e6 : g_common_divisor [.tup (lD l)] = _ := common_eq (l := l) (c := .tup (lD l)) (.inr rfl) fun x hx => by have := hi x hx; omega
  have e7 : dNe (nD (gcdL l)) (.int 1) = some (.bl (decide (gcdL l ≠ 1))) := dNe_n (gcdL l) 1
  rw [decide_eq_true hg] at e7
  show endP (f_is_semigroup [.im (.tup (lD l)), .un] 0) = _
  have e : f_is_semigroup [.im (.tup (lD l)), .un] 0 = .rt (.bl false) 0 := by
    unfold f_is_semigroup
    refine (sSeq_nx ((sIfS_f e1).trans rfl)).trans (sSeq_rt ?_)
    simp only [sSeq, sNext, sIfS, sRet, sDrop, sAsg, sPar, sAug, sAsgN, sParN, sParM, sApp, sExt, sSetIx, sFrz, sRaise, sVar, sC, sOp, sUn, sCb, sCons, sConsTw, sNil, sTup, sLst, nLst, nOp, sNw, sTest, sAnd, sOr, sNot, sAndV, sOrV, sNotV, sIf, sChain, sIxOw, sLenOw, sSl, sSlOw, sPart, sNoPart, sCallP, liftR, noEx, sThaw, sThawT, sIsi, nSeq, sTick, sYes, bindE, bindS, optE, asB, asI, G.plain, gN, gT, gTs, wipeD, Option.map, Option.bind, List.getElem?_cons_zero, List.getElem?_cons_succ, List.set_cons_zero, List.set_cons_succ, List.getElem?_nil, List.length_cons, List.length_nil, big0, big1, big2, big3, big4, big5, if_true, if_false, Bool.not_true, Bool.not_false, e2, e3, e6, e7]
  rw [e]
  rfl
/-- is_semigroup, of numbers -/
theorem isSg_dec (l : List Nat) (hb : l.length < 10000000) : g_is_semigroup [.tup (lD l)] = .ok (.bl (decide (IsSg l))) := by
  by_cases hl : 1 ≤ l.length ∧ l.length ≤ 12
  · by_cases hr : ∀ x ∈ l, 1 ≤ x ∧ x ≤ 99
    · by_cases hg : gcdL l = 1
      · rw [isSg_eq hl.1 hl.2 (fun x hx => (hr x hx).1) (fun x hx => (hr x hx).2) hg]
        congr 2
        exact decide_eq_decide.mpr ⟨fun h => ⟨hl.1, hl.2, fun x hx => (hr x hx).1, fun x hx => (hr x hx).2, hg, h⟩, fun h => h.self⟩
      · rw [isSg_ngcd hl.1 hl.2 (fun x hx => (hr x hx).1) (fun x hx => (hr x hx).2) hg, decide_eq_false fun h => hg h.gcd]
    · rw [decide_eq_false fun h => hr fun x hx => ⟨h.lo x hx, h.hi x hx⟩]
      refine isSg_bad (p := fun d => match d with | .int i => decide (1 ≤ i ∧ i ≤ 99) | _ => false) (by rw [List.length_map]; exact hb) (fun d hd => ?_) ?_
      · obtain ⟨x, hx, rfl⟩ := lD_mem hd
        have e : g_is_integer [nD x, .int 1, .int 99] = _ := isInt_eq x 1 99
        rw [e]
        show R.ok (D.bl _) = R.ok (D.bl (decide (1 ≤ (x : Int) ∧ (x : Int) ≤ 99)))
        congr 2
        exact decide_eq_decide.mpr (by omega)
      · rw [Bool.eq_false_iff]
        intro ha
        rw [List.all_eq_true] at ha
        refine hr fun x hx => ?_
        have := ha (nD x) (List.mem_map.mpr ⟨x, hx, rfl⟩)
        have h2 : 1 ≤ (x : Int) ∧ (x : Int) ≤ 99 := of_decide_eq_true this
        omega
  · rw [isSg_long (by rw [List.length_map]; exact hl), decide_eq_false fun h => hl ⟨h.len1, h.len2⟩]
theorem isSg_notup {ds : List D} : g_is_semigroup [.lst ds] = .ok (.bl false) := by
  have i1 : isiT "tuple" (.lst ds) = some false := rfl
  show endP (f_is_semigroup [.im (.lst ds), .un] 0) = _
  have e : f_is_semigroup [.im (.lst ds), .un] 0 = .rt (.bl false) 0 := by
    unfold f_is_semigroup
    refine sSeq_rt ?_
    simp only [sSeq, sNext, sIfS, sRet, sDrop, sAsg, sPar, sAug, sAsgN, sParN, sParM, sApp, sExt, sSetIx, sFrz, sRaise, sVar, sC, sOp, sUn, sCb, sCons, sConsTw, sNil, sTup, sLst, nLst, nOp, sNw, sTest, sAnd, sOr, sNot, sAndV, sOrV, sNotV, sIf, sChain, sIxOw, sLenOw, sSl, sSlOw, sPart, sNoPart, sCallP, liftR, noEx, sThaw, sThawT, sIsi, nSeq, sTick, sYes, bindE, bindS, optE, asB, asI, G.plain, gN, gT, gTs, wipeD, Option.map, Option.bind, List.getElem?_cons_zero, List.getElem?_cons_succ, List.set_cons_zero, List.set_cons_succ, List.getElem?_nil, List.length_cons, List.length_nil, big0, big1, big2, big3, big4, big5, if_true, if_false, Bool.not_true, Bool.not_false, i1]
  rw [e]
  rfl
/-- one odd item more -/
theorem isSg_odd {l l' : List Nat} {d : D} (h : g_is_integer [d, .int 1, .int 99] = .ok (.bl false)) (hd : ∀ n : Nat, d ≠ nD n) (hb : l.length + l'.length < 1000000) : g_is_semigroup [.tup (lD l ++ d :: lD l')] = .ok (.bl false) := by
  refine isSg_bad (p := fun d => match d with | .int i => decide (1 ≤ i ∧ i ≤ 99) && decide (0 ≤ i) | _ => false) (by rw [List.length_append, List.length_cons, List.length_map, List.length_map]; omega) (fun e he => ?_) ?_
  · have hn : ∀ x : Nat, g_is_integer [nD x, .int 1, .int 99] = R.ok (D.bl (decide (1 ≤ (x : Int) ∧ (x : Int) ≤ 99) && decide (0 ≤ (x : Int)))) := fun x => by
      have e : g_is_integer [nD x, .int 1, .int 99] = _ := isInt_eq x 1 99
      rw [e, decide_eq_true (show 0 ≤ (x : Int) by omega), Bool.and_true]
      congr 2
      exact decide_eq_decide.mpr (by omega)
    rcases List.mem_append.mp he with he | he
    · obtain ⟨x, hx, rfl⟩ := lD_mem he
      exact hn x
    · rcases List.mem_cons.mp he with rfl | he
      · rw [h]
        cases e with
        | int i =>
          by_cases h0 : 0 ≤ i
          · exact absurd (show D.int i = nD i.toNat by show _ = D.int ((i.toNat : Nat) : Int); rw [Int.toNat_of_nonneg h0]) (hd _)
          · show R.ok (D.bl false) = R.ok (D.bl (decide (1 ≤ i ∧ i ≤ 99) && decide (0 ≤ i)))
            rw [decide_eq_false h0, Bool.and_false]
        | _ => rfl
      · obtain ⟨x, hx, rfl⟩ := lD_mem he
        exact hn x
  · rw [Bool.eq_false_iff]
    intro ha
    rw [List.all_eq_true] at ha
    have := ha d (List.mem_append_right _ List.mem_cons_self)
    cases d with
    | int i =>
      have h2 : (decide (1 ≤ i ∧ i ≤ 99) && decide (0 ≤ i)) = true := this
      rw [Bool.and_eq_true, decide_eq_true_iff, decide_eq_true_iff] at h2
      exact absurd (show D.int i = nD i.toNat by show _ = D.int ((i.toNat : Nat) : Int); rw [Int.toNat_of_nonneg h2.2]) (hd _)
    | _ => cases this
theorem isInt_str (x : Str) : g_is_integer [.str x, .int 1, .int 99] = .ok (.bl false) := rfl
theorem isInt_bl (b : Bool) : g_is_integer [.bl b, .int 1, .int 99] = .ok (.bl false) := rfl
/-! ### from_numbers -/
theorem fromNumbers_eq {l : List Nat} (h1 : 1 ≤ l.length) (h2 : l.length ≤ 40) (hr : ∀ x ∈ l, 1 ≤ x ∧ x ≤ 99) (hg : gcdL l = 1) (hlen : (gens l).length ≤ 12) : g_from_numbers [.lst (lD l)] = .ok (.tup (lD (gens l))) := by
  have i1 : isiT "list" (.lst (lD l)) = some true := rfl
  have hne : l ≠ [] := fun e => by
    rw [e] at h1
    exact absurd h1 (by decide)
  have e1 := bLen_of (c := .lst (lD l)) (.inl rfl)
  have e2 : dLe (.int 1) (nD l.length) = _ := dLe_n 1 l.length
  rw [decide_eq_true h1] at e2
  have e3 : dLe (nD l.length) (.int 40) = _ := dLe_n l.length 40
  rw [decide_eq_true h2] at e3
  have e4 : nLc (nSeq (sVar 0)) (gN 1) sYes (sCallP g_is_integer (sCons (sVar 1) (sCons (sC (.int 1)) (sCons (sC (.int 99)) sNil)))) [1] [.im (.lst (lD l)), .un] 0 = .ok (l.map fun x => D.bl true, 0) :=
    nLc_m (by simp only [sSeq, sNext, sIfS, sRet, sDrop, sAsg, sPar, sAug, sAsgN, sParN, sParM, sApp, sExt, sSetIx, sFrz, sRaise, sVar, sC, sOp, sUn, sCb, sCons, sConsTw, sNil, sTup, sLst, nLst, nOp, sNw, sTest, sAnd, sOr, sNot, sAndV, sOrV, sNotV, sIf, sChain, sIxOw, sLenOw, sSl, sSlOw, sPart, sNoPart, sCallP, liftR, noEx, sThaw, sThawT, sIsi, nSeq, sTick, sYes, bindE, bindS, optE, asB, asI, G.plain, gN, gT, gTs, wipeD, Option.map, Option.bind, List.getElem?_cons_zero, List.getElem?_cons_succ, List.set_cons_zero, List.set_cons_succ, List.getElem?_nil, List.length_cons, List.length_nil, big0, big1, big2, big3, big4, big5, if_true, if_false, Bool.not_true, Bool.not_false, seqOf]) (by omega) _ fun x hx => ⟨_, rfl, by
      have := isInt_eq x 1 99
      rw [decide_eq_true (hr x hx)] at this
      simp only [sSeq, sNext, sIfS, sRet, sDrop, sAsg, sPar, sAug, sAsgN, sParN, sParM, sApp, sExt, sSetIx, sFrz, sRaise, sVar, sC, sOp, sUn, sCb, sCons, sConsTw, sNil, sTup, sLst, nLst, nOp, sNw, sTest, sAnd, sOr, sNot, sAndV, sOrV, sNotV, sIf, sChain, sIxOw, sLenOw, sSl, sSlOw, sPart, sNoPart, sCallP, liftR, noEx, sThaw, sThawT, sIsi, nSeq, sTick, sYes, bindE, bindS, optE, asB, asI, G.plain, gN, gT, gTs, wipeD, Option.map, Option.bind, List.getElem?_cons_zero, List.getElem?_cons_succ, List.set_cons_zero, List.set_cons_succ, List.getElem?_nil, List.length_cons, List.length_nil, big0, big1, big2, big3, big4, big5, if_true, if_false, Bool.not_true, Bool.not_false, show g_is_integer [nD x, .int 1, .int 99] = _ from this]⟩
  have e5 := bAll_of (l := l) fun _ => true
  rw [show (l.all fun _ => true) = true from List.all_eq_true.mpr fun _ _ => rfl] at e5
  have e6 : g_common_divisor [.lst (lD l)] = .ok (nD 1) := by
    have := common_eq (l := l) (c := .lst (lD l)) (.inl rfl) fun x hx => by have := hr x hx; omega
    rwa [hg] at this
  have e7 : dNe (nD 1) (.int 1) = some (.bl false) := dNe_n 1 1
  have e8 : g_limited [.lst (lD l)] = _ := limited_eq (.inl rfl) hne (fun x hx => (hr x hx).1) (fun x hx => by have := hr x hx; omega) (by omega) hlen fun x hx => (hr x (gens_of hx)).2
  show endP (f_from_numbers [.im (.lst (lD l)), .un] 0) = _
  unfold f_from_numbers
  simp only [sSeq, sNext, sIfS, sRet, sDrop, sAsg, sPar, sAug, sAsgN, sParN, sParM, sApp, sExt, sSetIx, sFrz, sRaise, sVar, sC, sOp, sUn, sCb, sCons, sConsTw, sNil, sTup, sLst, nLst, nOp, sNw, sTest, sAnd, sOr, sNot, sAndV, sOrV, sNotV, sIf, sChain, sIxOw, sLenOw, sSl, sSlOw, sPart, sNoPart, sCallP, liftR, noEx, sThaw, sThawT, sIsi, nSeq, sTick, sYes, bindE, bindS, optE, asB, asI, G.plain, gN, gT, gTs, wipeD, Option.map, Option.bind, List.getElem?_cons_zero, List.getElem?_cons_succ, List.set_cons_zero, List.set_cons_succ, List.getElem?_nil, List.length_cons, List.length_nil, big0, big1, big2, big3, big4, big5, if_true, if_false, Bool.not_true, Bool.not_false, i1, e1, e2, e3, e4, e5, e6, e7, e8, endP]
/-! ### the judges of the laws -/
theorem sameNum_i (i j : Int) : g__law_same_number [.int i, .int j] = .ok (.bl (decide (i = j))) := by
  have e := dEq_i i j
  have i1 : isiT "int" (.int i) = some true := rfl
  have i2 : isiT "bool" (.int i) = some false := rfl
  show endP (f__law_same_number [.im (.int i), .im (.int j)] 0) = _
  unfold f__law_same_number
  simp only [sSeq, sNext, sIfS, sRet, sDrop, sAsg, sPar, sAug, sAsgN, sParN, sParM, sApp, sExt, sSetIx, sFrz, sRaise, sVar, sC, sOp, sUn, sCb, sCons, sConsTw, sNil, sTup, sLst, nLst, nOp, sNw, sTest, sAnd, sOr, sNot, sAndV, sOrV, sNotV, sIf, sChain, sIxOw, sLenOw, sSl, sSlOw, sPart, sNoPart, sCallP, liftR, noEx, sThaw, sThawT, sIsi, nSeq, sTick, sYes, bindE, bindS, optE, asB, asI, G.plain, gN, gT, gTs, wipeD, Option.map, Option.bind, List.getElem?_cons_zero, List.getElem?_cons_succ, List.set_cons_zero, List.set_cons_succ, List.getElem?_nil, List.length_cons, List.length_nil, big0, big1, big2, big3, big4, big5, if_true, if_false, Bool.not_true, Bool.not_false, i1, i2, e, endP]
theorem sameTruth_b (a b : Bool) : g__law_same_truth [.bl a, .bl b] = .ok (.bl (decide (a = b))) := by
  cases a <;> cases b <;> rfl
end Gp
end

section
set_option linter.all false
set_option backward.match.sparseCases false
set_option maxRecDepth 100000
namespace Gp
open G PySem Sg Classical
/-! ### comprehensions over anything -/
theorem compR_G {α : Type} (e : α → D) {tg : SG} {ft : STg τ} {fe : SEg τ} {s : SD} {n : τ} (p : α → Bool) (h : α → D) : ∀ L : List α, (∀ a ∈ L, ∃ s1, tg (e a) s = some s1 ∧ ft s1 n = .ok (p a, n) ∧ (p a = true → fe s1 n = .ok (h a, n))) → compR tg ft fe s (L.map e) n = .ok ((L.filter p).map h, n)
  | [], _ => rfl
  | a :: L, hh => by
    obtain ⟨s1, h1, h2, h3⟩ := hh a List.mem_cons_self
    have ih := compR_G e (tg := tg) (ft := ft) (fe := fe) p h L fun b hb => hh b (List.mem_cons_of_mem _ hb)
    show (match tg (e a) s with
      | some s1 => bindE (noEx (ft s1 n)) fun b n1 => match b with
        | true => bindE (noEx (fe s1 n1)) fun y n2 => bindE (compR tg ft fe s (L.map e) n2) fun ys n3 => .ok (y :: ys, n3)
        | false => compR tg ft fe s (L.map e) n1
      | none => .no) = _
    rw [h1]
    dsimp only
    rw [h2]
    cases hp : p a with
    | true =>
      rw [List.filter_cons_of_pos hp]
      show bindE (noEx (fe s1 n)) (fun y n2 => bindE (compR tg ft fe s (L.map e) n2) fun ys n3 => .ok (y :: ys, n3)) = _
      rw [h3 hp]
      show bindE (compR tg ft fe s (L.map e) n) (fun ys n3 => .ok (h a :: ys, n3)) = _
      rw [ih]
      rfl
    | false =>
      rw [List.filter_cons_of_neg (by rw [hp]; decide)]
      show compR tg ft fe s (L.map e) n = _
      exact ih
theorem nLc_G {α : Type} (e : α → D) {it : SIg τ} {tg : SG} {ft : STg τ} {fe : SEg τ} {vs : List Nat} {s : SD} {n : τ} {L : List α} (hit : it s n = .ok (L.map e, n)) (hb : L.length < 10000000) (p : α → Bool) (h : α → D) (hh : ∀ x ∈ L, ∃ s1, tg (e x) (wipeD s vs) = some s1 ∧ ft s1 n = .ok (p x, n) ∧ (p x = true → fe s1 n = .ok (h x, n))) : nLc it tg ft fe vs s n = .ok ((L.filter p).map h, n) :=
  (nLc_eq hit (by rw [List.length_map]; exact hb)).trans (compR_G e p h L hh)
theorem enumD_lD (l : List Nat) : enumD 0 (lD l) = (List.range l.length).map fun i => D.tup [nD i, nD (l.getD i 0)] := by
  apply List.ext_getElem?
  intro i
  by_cases hi : i < l.length
  · have h1 : i < (enumD 0 (lD l)).length := by rw [enumD_len, List.length_map]; exact hi
    rw [List.getElem?_eq_getElem h1]
    obtain ⟨x, hx, ex⟩ := enum_lD (List.getElem?_eq_getElem h1)
    rw [ex, List.getElem?_map, List.getElem?_range hi]
    show some _ = some (D.tup [nD i, nD (l.getD i 0)])
    rw [List.getD_eq_getElem?_getD, hx]
    rfl
  · rw [List.getElem?_eq_none (by rw [enumD_len, List.length_map]; omega), List.getElem?_eq_none (by rw [List.length_map, List.length_range]; omega)]
/-! ### levels -/
def lvl (l : List Nat) (m : Nat) : List Nat := (List.range (m - 1)).map fun i => kv l m (i + 1)
theorem range_pos {m : Nat} (hm : 0 < m) : (List.range m).filter (fun i => decide (0 < i)) = (List.range (m - 1)).map (· + 1) := by
  obtain ⟨k, rfl⟩ : ∃ k, m = k + 1 := ⟨m - 1, by omega⟩
  rw [List.range_succ_eq_map, List.filter_cons_of_neg (by decide), Nat.add_sub_cancel]
  rw [List.filter_eq_self.mpr fun x hx => by
    obtain ⟨y, _, rfl⟩ := List.mem_map.mp hx
    exact decide_eq_true (Nat.succ_pos y)]
theorem IsSg.levels {l : List Nat} (h : IsSg l) {m : Nat} (d : Hd l m) : g_levels [.tup (lD l)] = .ok (.tup (lD (lvl l m))) := by
  have e1 := h.check
  have e2 := lD_ix0 d.at0
  have e3 : g_least_by [.tup (lD l), nD m] = _ := least_full (.inr rfl) h.nice d.pos (by have := d.le; omega)
  have a1 : nEnumU (sCons (sCallP g_least_by (sCons (sVar 0) (sCons (sVar 1) sNil))) sNil) [.im (.tup (lD l)), .im (nD m), .un, .un] 0 = .ok ((List.range m).map (fun i => D.tup [nD i, nD ((lvs l m).getD i 0)]), 0) := by
    have := enumD_lD (lvs l m)
    rw [lvs_len] at this
    simp only [nEnumU, sSeq, sNext, sIfS, sRet, sDrop, sAsg, sPar, sAug, sAsgN, sParN, sParM, sApp, sExt, sSetIx, sFrz, sRaise, sVar, sC, sOp, sUn, sCb, sCons, sConsTw, sNil, sTup, sLst, nLst, nOp, sNw, sTest, sAnd, sOr, sNot, sAndV, sOrV, sNotV, sIf, sChain, sIxOw, sLenOw, sSl, sSlOw, sPart, sNoPart, sCallP, liftR, noEx, sThaw, sThawT, sIsi, nSeq, sTick, sYes, bindE, bindS, optE, asB, asI, G.plain, gN, gT, gTs, wipeD, Option.map, Option.bind, List.getElem?_cons_zero, List.getElem?_cons_succ, List.set_cons_zero, List.set_cons_succ, List.getElem?_nil, List.length_cons, List.length_nil, big0, big1, big2, big3, big4, big5, if_true, if_false, Bool.not_true, Bool.not_false, e3, this]
  have a2 : nLc (nEnumU (sCons (sCallP g_least_by (sCons (sVar 0) (sCons (sVar 1) sNil))) sNil)) (gT [2, 3]) (sTest (sOp dGt (sVar 2) (sC (.int 0)))) (sOp dFdiv (sOp dSub (sVar 3) (sVar 2)) (sVar 1)) [2, 3] [.im (.tup (lD l)), .im (nD m), .un, .un] 0 = .ok (lD (lvl l m), 0) := by
    have := nLc_G (α := Nat) (fun i => D.tup [nD i, nD ((lvs l m).getD i 0)]) (tg := gT [2, 3]) (ft := sTest (sOp dGt (sVar 2) (sC (.int 0)))) (fe := sOp dFdiv (sOp dSub (sVar 3) (sVar 2)) (sVar 1)) (vs := [2, 3]) a1 (by rw [List.length_range]; have := d.le; omega) (fun i => decide (0 < i)) (fun i => nD (kv l m i)) fun i hi => ⟨[.im (.tup (lD l)), .im (nD m), .im (nD i), .im (nD ((lvs l m).getD i 0))], rfl, by
      have : dGt (nD i) (.int 0) = _ := dGt_n i 0
      simp only [sSeq, sNext, sIfS, sRet, sDrop, sAsg, sPar, sAug, sAsgN, sParN, sParM, sApp, sExt, sSetIx, sFrz, sRaise, sVar, sC, sOp, sUn, sCb, sCons, sConsTw, sNil, sTup, sLst, nLst, nOp, sNw, sTest, sAnd, sOr, sNot, sAndV, sOrV, sNotV, sIf, sChain, sIxOw, sLenOw, sSl, sSlOw, sPart, sNoPart, sCallP, liftR, noEx, sThaw, sThawT, sIsi, nSeq, sTick, sYes, bindE, bindS, optE, asB, asI, G.plain, gN, gT, gTs, wipeD, Option.map, Option.bind, List.getElem?_cons_zero, List.getElem?_cons_succ, List.set_cons_zero, List.set_cons_succ, List.getElem?_nil, List.length_cons, List.length_nil, big0, big1, big2, big3, big4, big5, if_true, if_false, Bool.not_true, Bool.not_false, this], fun _ => by
        rw [List.mem_range] at hi
        have v1 : (lvs l m).getD i 0 = lv l m i := by rw [List.getD_eq_getElem?_getD, lvs_get hi]; rfl
        have v2 := lv_kv h.nice d.pos hi
        have e4 := dSub_n (a := lv l m i) (b := i) (by omega)
        have e5 := dFdiv_n (a := lv l m i - i) d.pos (by have := d.le; omega)
        rw [show lv l m i - i = kv l m i * m by omega, Nat.mul_div_cancel _ d.pos] at e5
        rw [show lv l m i - i = kv l m i * m by omega] at e4
        simp only [sSeq, sNext, sIfS, sRet, sDrop, sAsg, sPar, sAug, sAsgN, sParN, sParM, sApp, sExt, sSetIx, sFrz, sRaise, sVar, sC, sOp, sUn, sCb, sCons, sConsTw, sNil, sTup, sLst, nLst, nOp, sNw, sTest, sAnd, sOr, sNot, sAndV, sOrV, sNotV, sIf, sChain, sIxOw, sLenOw, sSl, sSlOw, sPart, sNoPart, sCallP, liftR, noEx, sThaw, sThawT, sIsi, nSeq, sTick, sYes, bindE, bindS, optE, asB, asI, G.plain, gN, gT, gTs, wipeD, Option.map, Option.bind, List.getElem?_cons_zero, List.getElem?_cons_succ, List.set_cons_zero, List.set_cons_succ, List.getElem?_nil, List.length_cons, List.length_nil, big0, big1, big2, big3, big4, big5, if_true, if_false, Bool.not_true, Bool.not_false, v1, e4, e5]⟩
    rw [this, range_pos d.pos, List.map_map]
    show _ = R.ok (((List.range (m - 1)).map fun i => kv l m (i + 1)).map nD, 0)
    rw [List.map_map]
    rfl
  have e6 : bTuple [.lst (lD (lvl l m))] = some (.tup (lD (lvl l m))) := rfl
  show endP (f_levels [.im (.tup (lD l)), .un, .un, .un] 0) = _
  unfold f_levels
  simp only [sSeq, sNext, sIfS, sRet, sDrop, sAsg, sPar, sAug, sAsgN, sParN, sParM, sApp, sExt, sSetIx, sFrz, sRaise, sVar, sC, sOp, sUn, sCb, sCons, sConsTw, sNil, sTup, sLst, nLst, nOp, sNw, sTest, sAnd, sOr, sNot, sAndV, sOrV, sNotV, sIf, sChain, sIxOw, sLenOw, sSl, sSlOw, sPart, sNoPart, sCallP, liftR, noEx, sThaw, sThawT, sIsi, nSeq, sTick, sYes, bindE, bindS, optE, asB, asI, G.plain, gN, gT, gTs, wipeD, Option.map, Option.bind, List.getElem?_cons_zero, List.getElem?_cons_succ, List.set_cons_zero, List.set_cons_succ, List.getElem?_nil, List.length_cons, List.length_nil, big0, big1, big2, big3, big4, big5, if_true, if_false, Bool.not_true, Bool.not_false, e1, e2, a2, e6, endP]
/-! ### are_levels -/
/-- the conditions for a tuple of levels; the level of the remainder i is at i - 1 -/
def at1 (v : List Nat) (i : Nat) : Nat := v.getD (i - 1) 0
def KzC (v : List Nat) (i j : Nat) : Prop := (i + j < v.length + 1 → at1 v (i + j) ≤ at1 v i + at1 v j) ∧ (v.length + 1 < i + j → at1 v (i + j - (v.length + 1)) ≤ at1 v i + at1 v j + 1)
structure Kz (v : List Nat) : Prop where
  len : v.length ≤ 8
  rng : ∀ x ∈ v, 1 ≤ x ∧ x ≤ 9
  con : ∀ i j, 1 ≤ i → i < v.length + 1 → 1 ≤ j → j < i + 1 → KzC v i j
abbrev alB : SS := (sSeq (sIfS (sAnd (sTest (sOp dLt (sOp dAdd (sVar 2) (sVar 3)) (sVar 1))) (sTest (sOp dLt (sOp dAdd (sOp dIx (sVar 0) (sOp dSub (sVar 2) (sC (.int 1)))) (sOp dIx (sVar 0) (sOp dSub (sVar 3) (sC (.int 1))))) (sOp dIx (sVar 0) (sOp dSub (sOp dAdd (sVar 2) (sVar 3)) (sC (.int 1))))))) (sRet (sC (.bl false))) sNext)
  (sIfS (sAnd (sTest (sOp dGt (sOp dAdd (sVar 2) (sVar 3)) (sVar 1))) (sTest (sOp dLt (sOp dAdd (sOp dAdd (sOp dIx (sVar 0) (sOp dSub (sVar 2) (sC (.int 1)))) (sOp dIx (sVar 0) (sOp dSub (sVar 3) (sC (.int 1))))) (sC (.int 1))) (sOp dIx (sVar 0) (sOp dSub (sOp dSub (sOp dAdd (sVar 2) (sVar 3)) (sVar 1)) (sC (.int 1))))))) (sRet (sC (.bl false))) sNext))
theorem at1_ix {v : List Nat} {i : Nat} (h1 : 1 ≤ i) (h2 : i ≤ v.length) : dSub (nD i) (.int 1) = some (nD (i - 1)) ∧ dIx (.tup (lD v)) (nD (i - 1)) = some (nD (at1 v i)) := by
  refine ⟨dSub_n h1, ?_⟩
  have hlt : i - 1 < v.length := by omega
  have := lD_ixT (l := v) (List.getElem?_eq_getElem hlt)
  rw [this]
  unfold at1
  rw [List.getD_eq_getElem?_getD, List.getElem?_eq_getElem hlt]
  rfl
theorem al_body {v : List Nat} {i j : Nat} (hi : 1 ≤ i) (hi2 : i < v.length + 1) (hj : 1 ≤ j) (hj2 : j < i + 1) (x4 : SV) : alB [.im (.tup (lD v)), .im (nD (v.length + 1)), .im (nD i), .im (nD j), x4] 0 = if KzC v i j then .nx [.im (.tup (lD v)), .im (nD (v.length + 1)), .im (nD i), .im (nD j), x4] 0 else .rt (.bl false) 0 := by
  obtain ⟨a1, a2⟩ := at1_ix (v := v) hi (by omega)
  obtain ⟨b1, b2⟩ := at1_ix (v := v) hj (by omega)
  have c1 := dAdd_n i j
  have c2 := dLt_n (i + j) (v.length + 1)
  have c3 := dGt_n (i + j) (v.length + 1)
  have c4 := dAdd_n (at1 v i) (at1 v j)
  by_cases h1 : i + j < v.length + 1
  · obtain ⟨d1, d2⟩ := at1_ix (v := v) (i := i + j) (by omega) (by omega)
    have c5 := dLt_n (at1 v i + at1 v j) (at1 v (i + j))
    have h2 : ¬ (v.length + 1 < i + j) := by omega
    rw [decide_eq_true h1] at c2
    rw [decide_eq_false h2] at c3
    by_cases h3 : at1 v i + at1 v j < at1 v (i + j)
    · rw [decide_eq_true h3] at c5
      rw [if_neg (fun k => by have := k.1 h1; omega)]
      simp only [sSeq, sNext, sIfS, sRet, sDrop, sAsg, sPar, sAug, sAsgN, sParN, sParM, sApp, sExt, sSetIx, sFrz, sRaise, sVar, sC, sOp, sUn, sCb, sCons, sConsTw, sNil, sTup, sLst, nLst, nOp, sNw, sTest, sAnd, sOr, sNot, sAndV, sOrV, sNotV, sIf, sChain, sIxOw, sLenOw, sSl, sSlOw, sPart, sNoPart, sCallP, liftR, noEx, sThaw, sThawT, sIsi, nSeq, sTick, sYes, bindE, bindS, optE, asB, asI, G.plain, gN, gT, gTs, wipeD, Option.map, Option.bind, List.getElem?_cons_zero, List.getElem?_cons_succ, List.set_cons_zero, List.set_cons_succ, List.getElem?_nil, List.length_cons, List.length_nil, big0, big1, big2, big3, big4, big5, if_true, if_false, Bool.not_true, Bool.not_false, a1, a2, b1, b2, c1, c2, c4, d1, d2, c5]
    · rw [decide_eq_false h3] at c5
      rw [if_pos ⟨fun _ => by omega, fun z => absurd z h2⟩]
      simp only [sSeq, sNext, sIfS, sRet, sDrop, sAsg, sPar, sAug, sAsgN, sParN, sParM, sApp, sExt, sSetIx, sFrz, sRaise, sVar, sC, sOp, sUn, sCb, sCons, sConsTw, sNil, sTup, sLst, nLst, nOp, sNw, sTest, sAnd, sOr, sNot, sAndV, sOrV, sNotV, sIf, sChain, sIxOw, sLenOw, sSl, sSlOw, sPart, sNoPart, sCallP, liftR, noEx, sThaw, sThawT, sIsi, nSeq, sTick, sYes, bindE, bindS, optE, asB, asI, G.plain, gN, gT, gTs, wipeD, Option.map, Option.bind, List.getElem?_cons_zero, List.getElem?_cons_succ, List.set_cons_zero, List.set_cons_succ, List.getElem?_nil, List.length_cons, List.length_nil, big0, big1, big2, big3, big4, big5, if_true, if_false, Bool.not_true, Bool.not_false, a1, a2, b1, b2, c1, c2, c3, c4, d1, d2, c5]
  · rw [decide_eq_false h1] at c2
    by_cases h2 : v.length + 1 < i + j
    · obtain ⟨d1, d2⟩ := at1_ix (v := v) (i := i + j - (v.length + 1)) (by omega) (by omega)
      have d3 := dSub_n (a := i + j) (b := v.length + 1) (by omega)
      have c5 := dLt_n (at1 v i + at1 v j + 1) (at1 v (i + j - (v.length + 1)))
      have c6 := dAdd_n (at1 v i + at1 v j) 1
      rw [decide_eq_true h2] at c3
      by_cases h3 : at1 v i + at1 v j + 1 < at1 v (i + j - (v.length + 1))
      · rw [decide_eq_true h3] at c5
        rw [if_neg (fun k => by have := k.2 h2; omega)]
        simp only [sSeq, sNext, sIfS, sRet, sDrop, sAsg, sPar, sAug, sAsgN, sParN, sParM, sApp, sExt, sSetIx, sFrz, sRaise, sVar, sC, sOp, sUn, sCb, sCons, sConsTw, sNil, sTup, sLst, nLst, nOp, sNw, sTest, sAnd, sOr, sNot, sAndV, sOrV, sNotV, sIf, sChain, sIxOw, sLenOw, sSl, sSlOw, sPart, sNoPart, sCallP, liftR, noEx, sThaw, sThawT, sIsi, nSeq, sTick, sYes, bindE, bindS, optE, asB, asI, G.plain, gN, gT, gTs, wipeD, Option.map, Option.bind, List.getElem?_cons_zero, List.getElem?_cons_succ, List.set_cons_zero, List.set_cons_succ, List.getElem?_nil, List.length_cons, List.length_nil, big0, big1, big2, big3, big4, big5, if_true, if_false, Bool.not_true, Bool.not_false, a1, a2, b1, b2, c1, c2, c3, c4, d1, d2, d3, c5, show dAdd (nD (at1 v i + at1 v j)) (.int 1) = _ from c6]
      · rw [decide_eq_false h3] at c5
        rw [if_pos ⟨fun z => absurd z h1, fun _ => by omega⟩]
        simp only [sSeq, sNext, sIfS, sRet, sDrop, sAsg, sPar, sAug, sAsgN, sParN, sParM, sApp, sExt, sSetIx, sFrz, sRaise, sVar, sC, sOp, sUn, sCb, sCons, sConsTw, sNil, sTup, sLst, nLst, nOp, sNw, sTest, sAnd, sOr, sNot, sAndV, sOrV, sNotV, sIf, sChain, sIxOw, sLenOw, sSl, sSlOw, sPart, sNoPart, sCallP, liftR, noEx, sThaw, sThawT, sIsi, nSeq, sTick, sYes, bindE, bindS, optE, asB, asI, G.plain, gN, gT, gTs, wipeD, Option.map, Option.bind, List.getElem?_cons_zero, List.getElem?_cons_succ, List.set_cons_zero, List.set_cons_succ, List.getElem?_nil, List.length_cons, List.length_nil, big0, big1, big2, big3, big4, big5, if_true, if_false, Bool.not_true, Bool.not_false, a1, a2, b1, b2, c1, c2, c3, c4, d1, d2, d3, c5, show dAdd (nD (at1 v i + at1 v j)) (.int 1) = _ from c6]
    · rw [decide_eq_false h2] at c3
      rw [if_pos ⟨fun z => absurd z h1, fun z => absurd z h2⟩]
      simp only [sSeq, sNext, sIfS, sRet, sDrop, sAsg, sPar, sAug, sAsgN, sParN, sParM, sApp, sExt, sSetIx, sFrz, sRaise, sVar, sC, sOp, sUn, sCb, sCons, sConsTw, sNil, sTup, sLst, nLst, nOp, sNw, sTest, sAnd, sOr, sNot, sAndV, sOrV, sNotV, sIf, sChain, sIxOw, sLenOw, sSl, sSlOw, sPart, sNoPart, sCallP, liftR, noEx, sThaw, sThawT, sIsi, nSeq, sTick, sYes, bindE, bindS, optE, asB, asI, G.plain, gN, gT, gTs, wipeD, Option.map, Option.bind, List.getElem?_cons_zero, List.getElem?_cons_succ, List.set_cons_zero, List.set_cons_succ, List.getElem?_nil, List.length_cons, List.length_nil, big0, big1, big2, big3, big4, big5, if_true, if_false, Bool.not_true, Bool.not_false, c1, c2, c3]
theorem rangeD1_get {n i : Nat} {d : D} (h : (rangeD 1 n)[i]? = some d) : i < n ∧ d = nD (i + 1) := by
  obtain ⟨h1, h2⟩ := rangeD_get h
  refine ⟨h1, ?_⟩
  rw [h2]
  show D.int _ = D.int _
  congr 1
  omega
theorem al_inner {v : List Nat} {i : Nat} (hv : v.length ≤ 8) (hi : 1 ≤ i) (hi2 : i < v.length + 1) (x3 x4 : SV) : (∃ y3, sFor (nRng2 (sCons (sC (.int 1)) (sCons (sOp dAdd (sVar 2) (sC (.int 1))) sNil))) (gN 3) alB [.im (.tup (lD v)), .im (nD (v.length + 1)), .im (nD i), x3, x4] 0 = .nx [.im (.tup (lD v)), .im (nD (v.length + 1)), .im (nD i), y3, x4] 0 ∧ ∀ j, 1 ≤ j → j < i + 1 → KzC v i j) ∨ (sFor (nRng2 (sCons (sC (.int 1)) (sCons (sOp dAdd (sVar 2) (sC (.int 1))) sNil))) (gN 3) alB [.im (.tup (lD v)), .im (nD (v.length + 1)), .im (nD i), x3, x4] 0 = .rt (.bl false) 0 ∧ ∃ j, 1 ≤ j ∧ j < i + 1 ∧ ¬ KzC v i j) := by
  have a1 : nRng2 (sCons (sC (.int 1)) (sCons (sOp dAdd (sVar 2) (sC (.int 1))) sNil)) [.im (.tup (lD v)), .im (nD (v.length + 1)), .im (nD i), x3, x4] 0 = .ok (rangeD 1 i, 0) := by
    have e1 := dAdd_n i 1
    have e2 := lim62_n (n := i + 1) (by omega)
    have e4 : lim62 (1 : Int) = true := rfl
    unfold nRng2
    simp only [sSeq, sNext, sIfS, sRet, sDrop, sAsg, sPar, sAug, sAsgN, sParN, sParM, sApp, sExt, sSetIx, sFrz, sRaise, sVar, sC, sOp, sUn, sCb, sCons, sConsTw, sNil, sTup, sLst, nLst, nOp, sNw, sTest, sAnd, sOr, sNot, sAndV, sOrV, sNotV, sIf, sChain, sIxOw, sLenOw, sSl, sSlOw, sPart, sNoPart, sCallP, liftR, noEx, sThaw, sThawT, sIsi, nSeq, sTick, sYes, bindE, bindS, optE, asB, asI, G.plain, gN, gT, gTs, wipeD, Option.map, Option.bind, List.getElem?_cons_zero, List.getElem?_cons_succ, List.set_cons_zero, List.set_cons_succ, List.getElem?_nil, List.length_cons, List.length_nil, big0, big1, big2, big3, big4, big5, if_true, if_false, Bool.not_true, Bool.not_false, show dAdd (nD i) (.int 1) = _ from e1, e2, e4]
    rw [if_pos ⟨trivial, trivial⟩, show (((i + 1 : Nat) : Int) - 1).toNat = i by omega]
  have key := loopS_find0 (tg := gN 3) (f := alB) (n := 0) (fun k s => (∃ y3, s = [.im (.tup (lD v)), .im (nD (v.length + 1)), .im (nD i), y3, x4]) ∧ ∀ j, 1 ≤ j → j < k + 1 → KzC v i j) (fun r => r = .bl false ∧ ∃ j, 1 ≤ j ∧ j < i + 1 ∧ ¬ KzC v i j) (ds := rangeD 1 i) (s := [.im (.tup (lD v)), .im (nD (v.length + 1)), .im (nD i), x3, x4]) ⟨⟨x3, rfl⟩, fun j h1 h2 => by omega⟩ fun k d s hk hI => by
    obtain ⟨hk2, ed⟩ := rangeD1_get hk
    obtain ⟨⟨y3, es⟩, hI⟩ := hI
    subst ed es
    have b := al_body (v := v) (i := i) (j := k + 1) hi hi2 (by omega) (by omega) x4
    refine ⟨_, rfl, ?_⟩
    by_cases hc : KzC v i (k + 1)
    · rw [if_pos hc] at b
      refine .inl ⟨_, b, ⟨_, rfl⟩, fun j h1 h2 => ?_⟩
      by_cases e : j = k + 1
      · exact e ▸ hc
      · exact hI j h1 (by omega)
    · rw [if_neg hc] at b
      exact .inr ⟨_, b, rfl, k + 1, by omega, by omega, hc⟩
  rcases key with ⟨s', e, ⟨y3, es⟩, hI⟩ | ⟨r, e, hr, hI⟩
  · rw [rangeD_len] at hI
    exact .inl ⟨y3, by rw [sFor_eq a1, e, es], hI⟩
  · exact .inr ⟨by rw [sFor_eq a1, e, hr], hI⟩
theorem areLevels_eq (v : List Nat) (hb : v.length < 1000) : g_are_levels [.tup (lD v)] = .ok (.bl (decide (Kz v))) := by
  have i1 : isiT "tuple" (.tup (lD v)) = some true := rfl
  have e1 := bLen_of (c := .tup (lD v)) (.inr rfl)
  have e2 : dGt (nD v.length) (.int 8) = _ := dGt_n v.length 8
  have e3 : nLc (nSeq (sVar 0)) (gN 4) sYes (sCallP g_is_integer (sCons (sVar 4) (sCons (sC (.int 1)) (sCons (sC (.int 9)) sNil)))) [4] [.im (.tup (lD v)), .un, .un, .un, .un] 0 = .ok (v.map fun x => D.bl (decide (1 ≤ x ∧ x ≤ 9)), 0) :=
    nLc_m (by simp only [sSeq, sNext, sIfS, sRet, sDrop, sAsg, sPar, sAug, sAsgN, sParN, sParM, sApp, sExt, sSetIx, sFrz, sRaise, sVar, sC, sOp, sUn, sCb, sCons, sConsTw, sNil, sTup, sLst, nLst, nOp, sNw, sTest, sAnd, sOr, sNot, sAndV, sOrV, sNotV, sIf, sChain, sIxOw, sLenOw, sSl, sSlOw, sPart, sNoPart, sCallP, liftR, noEx, sThaw, sThawT, sIsi, nSeq, sTick, sYes, bindE, bindS, optE, asB, asI, G.plain, gN, gT, gTs, wipeD, Option.map, Option.bind, List.getElem?_cons_zero, List.getElem?_cons_succ, List.set_cons_zero, List.set_cons_succ, List.getElem?_nil, List.length_cons, List.length_nil, big0, big1, big2, big3, big4, big5, if_true, if_false, Bool.not_true, Bool.not_false, seqOf]) (by omega) _ fun x hx => ⟨_, rfl, by
      have := isInt_eq x 1 9
      simp only [sSeq, sNext, sIfS, sRet, sDrop, sAsg, sPar, sAug, sAsgN, sParN, sParM, sApp, sExt, sSetIx, sFrz, sRaise, sVar, sC, sOp, sUn, sCb, sCons, sConsTw, sNil, sTup, sLst, nLst, nOp, sNw, sTest, sAnd, sOr, sNot, sAndV, sOrV, sNotV, sIf, sChain, sIxOw, sLenOw, sSl, sSlOw, sPart, sNoPart, sCallP, liftR, noEx, sThaw, sThawT, sIsi, nSeq, sTick, sYes, bindE, bindS, optE, asB, asI, G.plain, gN, gT, gTs, wipeD, Option.map, Option.bind, List.getElem?_cons_zero, List.getElem?_cons_succ, List.set_cons_zero, List.set_cons_succ, List.getElem?_nil, List.length_cons, List.length_nil, big0, big1, big2, big3, big4, big5, if_true, if_false, Bool.not_true, Bool.not_false, show g_is_integer [nD x, .int 1, .int 9] = _ from this]⟩
  have e4 := bAll_of (l := v) fun x => decide (1 ≤ x ∧ x ≤ 9)
  have e4' : (v.all fun x => decide (1 ≤ x ∧ x ≤ 9)) = decide (∀ x ∈ v, 1 ≤ x ∧ x ≤ 9) := by
    rw [Bool.eq_iff_iff, List.all_eq_true, decide_eq_true_iff]
    exact ⟨fun h x hx => of_decide_eq_true (h x hx), fun h x hx => decide_eq_true (h x hx)⟩
  rw [e4'] at e4
  have e5 : dAdd (nD v.length) (.int 1) = _ := dAdd_n v.length 1
  have key : ∃ n, f_are_levels [.im (.tup (lD v)), .un, .un, .un, .un] 0 = .rt (.bl (decide (Kz v))) n := by
    unfold f_are_levels
    by_cases h1 : v.length ≤ 8
    · rw [decide_eq_false (by omega)] at e2
      by_cases h2 : ∀ x ∈ v, 1 ≤ x ∧ x ≤ 9
      · rw [decide_eq_true h2] at e4
        have a1 : nRng2 (sCons (sC (.int 1)) (sCons (sVar 1) sNil)) [.im (.tup (lD v)), .im (nD (v.length + 1)), .un, .un, .un] 0 = .ok (rangeD 1 v.length, 0) := by
          have e2 := lim62_n (n := v.length + 1) (by omega)
          have e4 : lim62 (1 : Int) = true := rfl
          unfold nRng2
          simp only [sSeq, sNext, sIfS, sRet, sDrop, sAsg, sPar, sAug, sAsgN, sParN, sParM, sApp, sExt, sSetIx, sFrz, sRaise, sVar, sC, sOp, sUn, sCb, sCons, sConsTw, sNil, sTup, sLst, nLst, nOp, sNw, sTest, sAnd, sOr, sNot, sAndV, sOrV, sNotV, sIf, sChain, sIxOw, sLenOw, sSl, sSlOw, sPart, sNoPart, sCallP, liftR, noEx, sThaw, sThawT, sIsi, nSeq, sTick, sYes, bindE, bindS, optE, asB, asI, G.plain, gN, gT, gTs, wipeD, Option.map, Option.bind, List.getElem?_cons_zero, List.getElem?_cons_succ, List.set_cons_zero, List.set_cons_succ, List.getElem?_nil, List.length_cons, List.length_nil, big0, big1, big2, big3, big4, big5, if_true, if_false, Bool.not_true, Bool.not_false, e2, e4]
          rw [if_pos ⟨trivial, trivial⟩, show (((v.length + 1 : Nat) : Int) - 1).toNat = v.length by omega]
        have key := loopS_find0 (tg := gN 2) (f := sFor (nRng2 (sCons (sC (.int 1)) (sCons (sOp dAdd (sVar 2) (sC (.int 1))) sNil))) (gN 3) alB) (n := 0) (fun k s => (∃ y2 y3, s = [.im (.tup (lD v)), .im (nD (v.length + 1)), y2, y3, .un]) ∧ ∀ i j, 1 ≤ i → i < k + 1 → 1 ≤ j → j < i + 1 → KzC v i j) (fun r => r = .bl false ∧ ¬ Kz v) (ds := rangeD 1 v.length) (s := [.im (.tup (lD v)), .im (nD (v.length + 1)), .un, .un, .un]) ⟨⟨_, _, rfl⟩, fun i j h1 h2 => by omega⟩ fun k d s hk hI => by
          obtain ⟨hk2, ed⟩ := rangeD1_get hk
          obtain ⟨⟨y2, y3, es⟩, hI⟩ := hI
          subst ed es
          refine ⟨_, rfl, ?_⟩
          rcases al_inner (v := v) (i := k + 1) h1 (by omega) (by omega) y3 .un with ⟨z3, e, hz⟩ | ⟨e, j, j1, j2, j3⟩
          · refine .inl ⟨_, e, ⟨_, _, rfl⟩, fun i j a1 a2 a3 a4 => ?_⟩
            by_cases ei : i = k + 1
            · subst ei
              exact hz j a3 a4
            · exact hI i j a1 (by omega) a3 a4
          · exact .inr ⟨_, e, rfl, fun z => j3 (z.con (k + 1) j (by omega) (by omega) j1 j2)⟩
        refine ⟨0, (sSeq_nx (s' := [.im (.tup (lD v)), .un, .un, .un, .un]) (n' := 0) (by simp only [sSeq, sNext, sIfS, sRet, sDrop, sAsg, sPar, sAug, sAsgN, sParN, sParM, sApp, sExt, sSetIx, sFrz, sRaise, sVar, sC, sOp, sUn, sCb, sCons, sConsTw, sNil, sTup, sLst, nLst, nOp, sNw, sTest, sAnd, sOr, sNot, sAndV, sOrV, sNotV, sIf, sChain, sIxOw, sLenOw, sSl, sSlOw, sPart, sNoPart, sCallP, liftR, noEx, sThaw, sThawT, sIsi, nSeq, sTick, sYes, bindE, bindS, optE, asB, asI, G.plain, gN, gT, gTs, wipeD, Option.map, Option.bind, List.getElem?_cons_zero, List.getElem?_cons_succ, List.set_cons_zero, List.set_cons_succ, List.getElem?_nil, List.length_cons, List.length_nil, big0, big1, big2, big3, big4, big5, if_true, if_false, Bool.not_true, Bool.not_false, i1, e1, e2, e3, e4])).trans ((sSeq_nx (s' := [.im (.tup (lD v)), .im (nD (v.length + 1)), .un, .un, .un]) (n' := 0) (by simp only [sSeq, sNext, sIfS, sRet, sDrop, sAsg, sPar, sAug, sAsgN, sParN, sParM, sApp, sExt, sSetIx, sFrz, sRaise, sVar, sC, sOp, sUn, sCb, sCons, sConsTw, sNil, sTup, sLst, nLst, nOp, sNw, sTest, sAnd, sOr, sNot, sAndV, sOrV, sNotV, sIf, sChain, sIxOw, sLenOw, sSl, sSlOw, sPart, sNoPart, sCallP, liftR, noEx, sThaw, sThawT, sIsi, nSeq, sTick, sYes, bindE, bindS, optE, asB, asI, G.plain, gN, gT, gTs, wipeD, Option.map, Option.bind, List.getElem?_cons_zero, List.getElem?_cons_succ, List.set_cons_zero, List.set_cons_succ, List.getElem?_nil, List.length_cons, List.length_nil, big0, big1, big2, big3, big4, big5, if_true, if_false, Bool.not_true, Bool.not_false, e1, e5])).trans ?_)⟩
        rcases key with ⟨s', e, ⟨y2, y3, es⟩, hI⟩ | ⟨r, e, hr, hI⟩
        · rw [rangeD_len] at hI
          rw [decide_eq_true (show Kz v from ⟨h1, h2, hI⟩)]
          exact (sSeq_nx ((sFor_eq a1).trans e)).trans rfl
        · subst hr
          rw [decide_eq_false hI]
          exact sSeq_rt ((sFor_eq a1).trans e)
      · rw [decide_eq_false h2] at e4
        rw [decide_eq_false (fun z : Kz v => h2 z.rng)]
        exact ⟨0, sSeq_rt (by simp only [sSeq, sNext, sIfS, sRet, sDrop, sAsg, sPar, sAug, sAsgN, sParN, sParM, sApp, sExt, sSetIx, sFrz, sRaise, sVar, sC, sOp, sUn, sCb, sCons, sConsTw, sNil, sTup, sLst, nLst, nOp, sNw, sTest, sAnd, sOr, sNot, sAndV, sOrV, sNotV, sIf, sChain, sIxOw, sLenOw, sSl, sSlOw, sPart, sNoPart, sCallP, liftR, noEx, sThaw, sThawT, sIsi, nSeq, sTick, sYes, bindE, bindS, optE, asB, asI, G.plain, gN, gT, gTs, wipeD, Option.map, Option.bind, List.getElem?_cons_zero, List.getElem?_cons_succ, List.set_cons_zero, List.set_cons_succ, List.getElem?_nil, List.length_cons, List.length_nil, big0, big1, big2, big3, big4, big5, if_true, if_false, Bool.not_true, Bool.not_false, i1, e1, e2, e3, e4])⟩
    · rw [decide_eq_true (by omega)] at e2
      rw [decide_eq_false (fun z : Kz v => h1 z.len)]
      exact ⟨0, sSeq_rt (by simp only [sSeq, sNext, sIfS, sRet, sDrop, sAsg, sPar, sAug, sAsgN, sParN, sParM, sApp, sExt, sSetIx, sFrz, sRaise, sVar, sC, sOp, sUn, sCb, sCons, sConsTw, sNil, sTup, sLst, nLst, nOp, sNw, sTest, sAnd, sOr, sNot, sAndV, sOrV, sNotV, sIf, sChain, sIxOw, sLenOw, sSl, sSlOw, sPart, sNoPart, sCallP, liftR, noEx, sThaw, sThawT, sIsi, nSeq, sTick, sYes, bindE, bindS, optE, asB, asI, G.plain, gN, gT, gTs, wipeD, Option.map, Option.bind, List.getElem?_cons_zero, List.getElem?_cons_succ, List.set_cons_zero, List.set_cons_succ, List.getElem?_nil, List.length_cons, List.length_nil, big0, big1, big2, big3, big4, big5, if_true, if_false, Bool.not_true, Bool.not_false, i1, e1, e2])⟩
  obtain ⟨n, e⟩ := key
  show endP (f_are_levels [.im (.tup (lD v)), .un, .un, .un, .un] 0) = _
  rw [e]
  rfl
/-! ### from_levels -/
/-- the numbers that the levels tell -/
def told (v : List Nat) : List Nat := (v.length + 1) :: (List.range v.length).map fun i => v.getD i 0 * (v.length + 1) + i + 1
theorem told_len (v : List Nat) : (told v).length = v.length + 1 := by rw [told, List.length_cons, List.length_map, List.length_range]
theorem fromLevels_eq {v : List Nat} (h : Kz v) (hg : (gens (told v)).length ≤ 12) (h2 : ∀ x ∈ gens (told v), x ≤ 99) : g_from_levels [.tup (lD v)] = .ok (.tup (lD (gens (told v)))) := by
  have e1 := areLevels_eq v (by have := h.len; omega)
  rw [decide_eq_true h] at e1
  have e2 := bLen_of (c := .tup (lD v)) (.inr rfl)
  have e3 : dAdd (nD v.length) (.int 1) = _ := dAdd_n v.length 1
  have hl := h.len
  have hv9 : ∀ i, v.getD i 0 ≤ 9 := fun i => by
    rw [List.getD_eq_getElem?_getD]
    cases e : v[i]? with
    | none => exact Nat.zero_le _
    | some x => exact (h.rng x (List.mem_of_getElem? e)).2
  have a1 : nEnumU (sCons (sVar 0) sNil) [.im (.tup (lD v)), .im (nD (v.length + 1)), .un, .un] 0 = .ok ((List.range v.length).map (fun i => D.tup [nD i, nD (v.getD i 0)]), 0) := by
    simp only [nEnumU, sSeq, sNext, sIfS, sRet, sDrop, sAsg, sPar, sAug, sAsgN, sParN, sParM, sApp, sExt, sSetIx, sFrz, sRaise, sVar, sC, sOp, sUn, sCb, sCons, sConsTw, sNil, sTup, sLst, nLst, nOp, sNw, sTest, sAnd, sOr, sNot, sAndV, sOrV, sNotV, sIf, sChain, sIxOw, sLenOw, sSl, sSlOw, sPart, sNoPart, sCallP, liftR, noEx, sThaw, sThawT, sIsi, nSeq, sTick, sYes, bindE, bindS, optE, asB, asI, G.plain, gN, gT, gTs, wipeD, Option.map, Option.bind, List.getElem?_cons_zero, List.getElem?_cons_succ, List.set_cons_zero, List.set_cons_succ, List.getElem?_nil, List.length_cons, List.length_nil, big0, big1, big2, big3, big4, big5, if_true, if_false, Bool.not_true, Bool.not_false, enumD_lD]
  have a2 : nLc (nEnumU (sCons (sVar 0) sNil)) (gT [2, 3]) sYes (sOp dAdd (sOp dAdd (sOp dMul (sVar 3) (sVar 1)) (sVar 2)) (sC (.int 1))) [2, 3] [.im (.tup (lD v)), .im (nD (v.length + 1)), .un, .un] 0 = .ok (lD ((List.range v.length).map fun i => v.getD i 0 * (v.length + 1) + i + 1), 0) := by
    have := nLc_G (α := Nat) (fun i => D.tup [nD i, nD (v.getD i 0)]) (tg := gT [2, 3]) (ft := sYes) (fe := sOp dAdd (sOp dAdd (sOp dMul (sVar 3) (sVar 1)) (sVar 2)) (sC (.int 1))) (vs := [2, 3]) a1 (by rw [List.length_range]; omega) (fun _ => true) (fun i => nD (v.getD i 0 * (v.length + 1) + i + 1)) fun i hi => ⟨[.im (.tup (lD v)), .im (nD (v.length + 1)), .im (nD i), .im (nD (v.getD i 0))], rfl, rfl, fun _ => by
        have f1 := dMul_n (a := v.getD i 0) (b := v.length + 1) (by have := hv9 i; omega)
        have f2 := dAdd_n (v.getD i 0 * (v.length + 1)) i
        have f3 : dAdd (nD (v.getD i 0 * (v.length + 1) + i)) (.int 1) = _ := dAdd_n (v.getD i 0 * (v.length + 1) + i) 1
        simp only [sSeq, sNext, sIfS, sRet, sDrop, sAsg, sPar, sAug, sAsgN, sParN, sParM, sApp, sExt, sSetIx, sFrz, sRaise, sVar, sC, sOp, sUn, sCb, sCons, sConsTw, sNil, sTup, sLst, nLst, nOp, sNw, sTest, sAnd, sOr, sNot, sAndV, sOrV, sNotV, sIf, sChain, sIxOw, sLenOw, sSl, sSlOw, sPart, sNoPart, sCallP, liftR, noEx, sThaw, sThawT, sIsi, nSeq, sTick, sYes, bindE, bindS, optE, asB, asI, G.plain, gN, gT, gTs, wipeD, Option.map, Option.bind, List.getElem?_cons_zero, List.getElem?_cons_succ, List.set_cons_zero, List.set_cons_succ, List.getElem?_nil, List.length_cons, List.length_nil, big0, big1, big2, big3, big4, big5, if_true, if_false, Bool.not_true, Bool.not_false, f1, f2, f3]⟩
    rw [this, List.filter_eq_self.mpr fun _ _ => rfl]
    show _ = R.ok (((List.range v.length).map fun i => v.getD i 0 * (v.length + 1) + i + 1).map nD, 0)
    rw [List.map_map]
    rfl
  have a3 : dAdd (.lst [nD (v.length + 1)]) (.lst (lD ((List.range v.length).map fun i => v.getD i 0 * (v.length + 1) + i + 1))) = some (.lst (lD (told v))) := dAdd_lst (by
    rw [List.length_map, List.length_map, List.length_range]
    simp
    omega)
  have hpos : ∀ x ∈ told v, 0 < x := fun x hx => by
    rcases List.mem_cons.mp hx with rfl | hx
    · omega
    · obtain ⟨i, _, rfl⟩ := List.mem_map.mp hx
      omega
  have hbig : ∀ x ∈ told v, x < 400000 := fun x hx => by
    rcases List.mem_cons.mp hx with rfl | hx
    · omega
    · obtain ⟨i, hi, rfl⟩ := List.mem_map.mp hx
      rw [List.mem_range] at hi
      have := Nat.mul_le_mul (hv9 i) (show v.length + 1 ≤ 9 by omega)
      omega
  have a4 : g_limited [.lst (lD (told v))] = _ := limited_eq (.inl rfl) (fun z => by cases z) hpos hbig (by rw [told_len]; omega) hg h2
  show endP (f_from_levels [.im (.tup (lD v)), .un, .un, .un] 0) = _
  unfold f_from_levels
  simp only [sSeq, sNext, sIfS, sRet, sDrop, sAsg, sPar, sAug, sAsgN, sParN, sParM, sApp, sExt, sSetIx, sFrz, sRaise, sVar, sC, sOp, sUn, sCb, sCons, sConsTw, sNil, sTup, sLst, nLst, nOp, sNw, sTest, sAnd, sOr, sNot, sAndV, sOrV, sNotV, sIf, sChain, sIxOw, sLenOw, sSl, sSlOw, sPart, sNoPart, sCallP, liftR, noEx, sThaw, sThawT, sIsi, nSeq, sTick, sYes, bindE, bindS, optE, asB, asI, G.plain, gN, gT, gTs, wipeD, Option.map, Option.bind, List.getElem?_cons_zero, List.getElem?_cons_succ, List.set_cons_zero, List.set_cons_succ, List.getElem?_nil, List.length_cons, List.length_nil, big0, big1, big2, big3, big4, big5, if_true, if_false, Bool.not_true, Bool.not_false, e1, e2, e3, a2, a3, a4, endP]
end Gp
end

section
set_option linter.all false
set_option backward.match.sparseCases false
set_option maxRecDepth 100000
namespace Gp
open G PySem Sg Classical
/-! ### the levels of a semigroup, and the numbers that they tell -/
section
variable {l : List Nat} {m : Nat}
theorem lvl_len (l : List Nat) (m : Nat) : (lvl l m).length = m - 1 := by rw [lvl, List.length_map, List.length_range]
theorem lvl_at {r : Nat} (h1 : 1 ≤ r) (h2 : r < m) : at1 (lvl l m) r = kv l m r := by
  unfold at1 lvl
  rw [List.getD_eq_getElem?_getD, List.getElem?_map, List.getElem?_range (by omega)]
  show kv l m (r - 1 + 1) = _
  rw [show r - 1 + 1 = r by omega]
/-- the least generator's levels are above 0 -/
theorem kv_pos (h : IsSg l) (d : Hd l m) {r : Nat} (h1 : 1 ≤ r) (h2 : r < m) : 1 ≤ kv l m r := by
  rcases Nat.eq_zero_or_pos (kv l m r) with z | z
  · have e := lv_kv h.nice d.pos h2
    rw [z, Nat.zero_mul, Nat.add_zero] at e
    have s := lv_sum h.nice d.pos h2
    rw [e] at s
    rcases s.last with e0 | ⟨g, w, hg, _, e1⟩
    · omega
    · have := h.min d g hg
      omega
  · exact z
theorem lv_add (h : Nice l) (hm : 0 < m) {i j : Nat} (hi : i < m) (hj : j < m) : lv l m ((i + j) % m) ≤ lv l m i + lv l m j := by
  have s := (lv_sum h hm hi).plus (lv_sum h hm hj)
  have := lv_le h hm s
  rwa [Nat.add_mod, lv_mod h hm hi, lv_mod h hm hj] at this
theorem lvl_con (h : Nice l) (hm : 0 < m) : ∀ i j, 1 ≤ i → i < (lvl l m).length + 1 → 1 ≤ j → j < i + 1 → KzC (lvl l m) i j := by
  intro i j h1 h2 h3 h4
  rw [lvl_len] at h2
  have hm1 : m - 1 + 1 = m := by omega
  unfold KzC
  rw [lvl_len, hm1]
  have a := lv_add h hm (i := i) (j := j) (by omega) (by omega)
  have ki := lv_kv h hm (r := i) (by omega)
  have kj := lv_kv h hm (r := j) (by omega)
  refine ⟨fun hlt => ?_, fun hgt => ?_⟩
  · rw [lvl_at (by omega) hlt, lvl_at h1 (by omega), lvl_at h3 (by omega)]
    rw [Nat.mod_eq_of_lt hlt, lv_kv h hm hlt, ki, kj] at a
    have : kv l m (i + j) * m ≤ (kv l m i + kv l m j) * m := by rw [Nat.add_mul]; omega
    exact Nat.le_of_mul_le_mul_right this hm
  · rw [lvl_at (r := i + j - m) (by omega) (by omega), lvl_at h1 (by omega), lvl_at h3 (by omega)]
    have hr : (i + j) % m = i + j - m := by rw [Nat.mod_eq_sub_mod (by omega), Nat.mod_eq_of_lt (by omega)]
    rw [hr, lv_kv h hm (r := i + j - m) (by omega), ki, kj] at a
    have : kv l m (i + j - m) * m ≤ (kv l m i + kv l m j + 1) * m := by rw [Nat.add_mul, Nat.add_mul]; omega
    exact Nat.le_of_mul_le_mul_right this hm
theorem told_lvl_mem (h : Nice l) (hm : 0 < m) {x : Nat} : x ∈ told (lvl l m) ↔ x = m ∨ ∃ r, 1 ≤ r ∧ r < m ∧ x = lv l m r := by
  unfold told
  rw [lvl_len, show m - 1 + 1 = m by omega, List.mem_cons]
  refine or_congr Iff.rfl ?_
  rw [List.mem_map]
  constructor
  · rintro ⟨i, hi, rfl⟩
    rw [List.mem_range] at hi
    refine ⟨i + 1, by omega, by omega, ?_⟩
    have e := lvl_at (l := l) (m := m) (r := i + 1) (by omega) (by omega)
    unfold at1 at e
    rw [Nat.add_sub_cancel] at e
    rw [e, lv_kv h hm (r := i + 1) (by omega)]
    omega
  · rintro ⟨r, h1, h2, rfl⟩
    refine ⟨r - 1, List.mem_range.mpr (by omega), ?_⟩
    have e := lvl_at (l := l) (m := m) h1 h2
    unfold at1 at e
    rw [e, lv_kv h hm h2]
    omega
/-- the numbers that the levels tell have the same sums -/
theorem told_sum (h : Nice l) (hm : 0 < m) (he : Sum l m) (n : Nat) : Sum (told (lvl l m)) n ↔ Sum l n := by
  constructor
  · refine Sum.trans fun g hg => ?_
    rcases (told_lvl_mem h hm).mp hg with rfl | ⟨r, _, h2, rfl⟩
    · exact he
    · exact lv_sum h hm h2
  · intro s
    obtain ⟨k, e⟩ := mod_le_split (lv_mod h hm (Nat.mod_lt n hm)) ((sum_lv h hm he n).mp s)
    have sm : Sum (told (lvl l m)) m := .gen ((told_lvl_mem h hm).mpr (.inl rfl))
    rw [e]
    refine Sum.plus ?_ (sm.mul k)
    by_cases hr : n % m = 0
    · have s0 : Sum l 0 := .zero
      have := lv_le h hm s0
      rw [Nat.zero_mod] at this
      rw [hr, show lv l m 0 = 0 by omega]
      exact .zero
    · exact .gen ((told_lvl_mem h hm).mpr (.inr ⟨n % m, by omega, Nat.mod_lt n hm, rfl⟩))
theorem told_pos (v : List Nat) : ∀ x ∈ told v, 0 < x := fun x hx => by
  rcases List.mem_cons.mp hx with rfl | hx
  · omega
  · obtain ⟨i, _, rfl⟩ := List.mem_map.mp hx
    omega
theorem gens_told (h : IsSg l) (d : Hd l m) : gens (told (lvl l m)) = l := by
  rw [gens_ext (told_pos _) h.nice.pos (told_sum h.nice d.pos d.sum), h.self]
theorem kz_lvl (h : IsSg l) (d : Hd l m) : Kz (lvl l m) ↔ m < 10 ∧ ∀ x ∈ lvl l m, x < 10 := by
  constructor
  · intro k
    have := k.len
    rw [lvl_len] at this
    exact ⟨by have := d.pos; omega, fun x hx => by have := k.rng x hx; omega⟩
  · rintro ⟨h1, h2⟩
    refine ⟨by rw [lvl_len]; omega, fun x hx => ⟨?_, by have := h2 x hx; omega⟩, lvl_con h.nice d.pos⟩
    obtain ⟨i, hi, rfl⟩ := List.mem_map.mp hx
    rw [List.mem_range] at hi
    exact kv_pos h d (by omega) (by omega)
theorem lvl_sum (h : IsSg l) (d : Hd l m) : (lvl l m).sum = (gapsL l).length := by
  rw [← (gap_perm h.nice d.pos d.sum).length_eq]
  unfold gapF lvl
  rw [len_flat]
  have e : ∀ n, ((List.range (n + 1)).map fun r => (gapR l m r).length).sum = (gapR l m 0).length + ((List.range n).map fun i => (gapR l m (i + 1)).length).sum := fun n => by
    rw [List.range_succ_eq_map, List.map_cons, List.sum_cons, List.map_map]
    rfl
  have hm1 : m - 1 + 1 = m := by have := d.pos; omega
  have e2 := e (m - 1)
  rw [hm1] at e2
  rw [e2]
  have e3 : (gapR l m 0).length = 0 := by
    unfold gapR
    rw [List.length_map, List.length_range]
    have s0 : Sum l 0 := .zero
    have := lv_le h.nice d.pos s0
    rw [Nat.zero_mod] at this
    unfold kv
    rw [show lv l m 0 = 0 by omega, Nat.zero_div]
  rw [e3, Nat.zero_add]
  congr 1
  apply List.map_congr_left
  intro i _
  unfold gapR
  rw [List.length_map, List.length_range]
/-- how many gaps have a remainder -/
theorem count_res (h : IsSg l) (d : Hd l m) {r : Nat} (hr : r < m) : ((gapsL l).filter fun x => decide (x % m = r)).length = kv l m r := by
  have p := (gap_perm h.nice d.pos d.sum).filter fun x => decide (x % m = r)
  rw [← p.length_eq]
  have e : ((gapF l m).filter fun x => decide (x % m = r)).Perm (gapR l m r) := by
    rw [List.perm_ext_iff_of_nodup ((gapF_nodup d.pos).filter _) (nodup_of_sorted (gapR_sorted d.pos r))]
    intro x
    rw [List.mem_filter, mem_gapF h.nice d.pos d.sum, decide_eq_true_iff, mem_gapR h.nice d.pos hr, sum_lv h.nice d.pos d.sum]
    constructor
    · rintro ⟨h1, h2⟩
      rw [h2] at h1
      exact ⟨h2, by omega⟩
    · rintro ⟨h1, h2⟩
      rw [h1]
      exact ⟨by omega, rfl⟩
  rw [e.length_eq]
  unfold gapR
  rw [List.length_map, List.length_range]
end
end Gp
end

section
set_option linter.all false
set_option backward.match.sparseCases false
set_option maxRecDepth 100000
namespace Gp
open G PySem Sg Classical
/-! ### a tuple of levels is one of a semigroup just if ... -/
section
variable {v : List Nat}
abbrev wv (v : List Nat) (r : Nat) : Nat := at1 v r * (v.length + 1) + r
theorem told_mem {x : Nat} : x ∈ told v ↔ x = v.length + 1 ∨ ∃ r, 1 ≤ r ∧ r < v.length + 1 ∧ x = wv v r := by
  unfold told
  rw [List.mem_cons]
  refine or_congr Iff.rfl ?_
  rw [List.mem_map]
  constructor
  · rintro ⟨i, hi, rfl⟩
    rw [List.mem_range] at hi
    exact ⟨i + 1, by omega, by omega, by unfold wv at1; rw [Nat.add_sub_cancel, Nat.add_assoc]⟩
  · rintro ⟨r, h1, h2, rfl⟩
    refine ⟨r - 1, List.mem_range.mpr (by omega), ?_⟩
    unfold wv at1
    omega
theorem told_tail {x : Nat} : x ∈ (told v).tail ↔ ∃ r, 1 ≤ r ∧ r < v.length + 1 ∧ x = wv v r := by
  unfold told
  rw [List.tail_cons, List.mem_map]
  constructor
  · rintro ⟨i, hi, rfl⟩
    rw [List.mem_range] at hi
    exact ⟨i + 1, by omega, by omega, by unfold wv at1; rw [Nat.add_sub_cancel, Nat.add_assoc]⟩
  · rintro ⟨r, h1, h2, rfl⟩
    refine ⟨r - 1, List.mem_range.mpr (by omega), ?_⟩
    unfold wv at1
    omega
theorem wv_mod {r : Nat} (h : r < v.length + 1) : wv v r % (v.length + 1) = r := by
  unfold wv
  rw [Nat.add_comm, Nat.add_mul_mod_self_right, Nat.mod_eq_of_lt h]
theorem at1_pos (h : ∀ x ∈ v, 1 ≤ x ∧ x ≤ 9) {r : Nat} (h1 : 1 ≤ r) (h2 : r < v.length + 1) : 1 ≤ at1 v r ∧ at1 v r ≤ 9 := by
  unfold at1
  rw [List.getD_eq_getElem?_getD, List.getElem?_eq_getElem (show r - 1 < v.length by omega)]
  exact h _ (List.getElem_mem _)
theorem wv_ge (h : ∀ x ∈ v, 1 ≤ x ∧ x ≤ 9) {r : Nat} (h1 : 1 ≤ r) (h2 : r < v.length + 1) : v.length + 1 + r ≤ wv v r := by
  have := Nat.mul_le_mul_right (v.length + 1) (at1_pos h h1 h2).1
  unfold wv
  omega
theorem wv_le (h : ∀ x ∈ v, 1 ≤ x ∧ x ≤ 9) (hl : v.length ≤ 8) {r : Nat} (h1 : 1 ≤ r) (h2 : r < v.length + 1) : wv v r ≤ 89 := by
  have := Nat.mul_le_mul (at1_pos h h1 h2).2 (show v.length + 1 ≤ 9 by omega)
  unfold wv
  omega
theorem told_le (h : ∀ x ∈ v, 1 ≤ x ∧ x ≤ 9) (hl : v.length ≤ 8) : ∀ x ∈ told v, x ≤ 89 := fun x hx => by
  rcases told_mem.mp hx with rfl | ⟨r, h1, h2, rfl⟩
  · omega
  · exact wv_le h hl h1 h2
theorem told_nice (v : List Nat) : Nice (told v) := by
  refine ⟨told_pos v, ?_⟩
  by_cases h : v.length = 0
  · have : told v = [1] := by
      unfold told
      rw [h]
      rfl
    rw [this]
    rfl
  · have h1 := gcdL_dvd (told v) _ (told_mem.mpr (.inl rfl))
    have h2 := gcdL_dvd (told v) (wv v 1) (told_mem.mpr (.inr ⟨1, by omega, by omega, rfl⟩))
    unfold wv at h2
    have h3 := (Nat.dvd_add_right (Nat.dvd_mul_left_of_dvd h1 (at1 v 1))).mp h2
    exact Nat.dvd_one.mp h3
theorem kz_sub (k : Kz v) {i j : Nat} (hi : 1 ≤ i) (hi2 : i < v.length + 1) (hj : 1 ≤ j) (hj2 : j < v.length + 1) : (i + j < v.length + 1 → wv v (i + j) ≤ wv v i + wv v j) ∧ (v.length + 1 < i + j → wv v (i + j - (v.length + 1)) ≤ wv v i + wv v j) := by
  have key : KzC v i j := by
    rcases Nat.le_total j i with h | h
    · exact k.con i j hi hi2 hj (by omega)
    · have := k.con j i hj hj2 hi (by omega)
      unfold KzC at this ⊢
      rw [Nat.add_comm j i, Nat.add_comm (at1 v j)] at this
      exact this
  unfold wv
  refine ⟨fun h => ?_, fun h => ?_⟩
  · have := Nat.mul_le_mul_right (v.length + 1) (key.1 h)
    rw [Nat.add_mul] at this
    omega
  · have := Nat.mul_le_mul_right (v.length + 1) (key.2 h)
    rw [Nat.add_mul, Nat.add_mul] at this
    omega
theorem kz_least (k : Kz v) {n : Nat} (s : Sum (told v) n) : n % (v.length + 1) ≠ 0 → wv v (n % (v.length + 1)) ≤ n := by
  induction s with
  | zero => exact fun h => absurd (Nat.zero_mod _) h
  | @add g n hg hs ih =>
    intro h
    have hM : 0 < v.length + 1 := by omega
    rcases told_mem.mp hg with rfl | ⟨j, h1, h2, rfl⟩
    · rw [Nat.add_mod_right] at h ⊢
      have := ih h
      omega
    · have hm : (n + wv v j) % (v.length + 1) = (n % (v.length + 1) + j) % (v.length + 1) := by
        rw [Nat.add_mod, wv_mod h2]
      rw [hm] at h ⊢
      by_cases h0 : n % (v.length + 1) = 0
      · rw [h0, Nat.zero_add, Nat.mod_eq_of_lt h2]
        omega
      · have hi := Nat.mod_lt n hM
        have a1 := ih h0
        obtain ⟨s1, s2⟩ := kz_sub k (i := n % (v.length + 1)) (j := j) (by omega) hi h1 h2
        rcases Nat.lt_trichotomy (n % (v.length + 1) + j) (v.length + 1) with c | c | c
        · rw [Nat.mod_eq_of_lt c]
          have := s1 c
          omega
        · rw [c, Nat.mod_self] at h
          exact absurd rfl h
        · rw [Nat.mod_eq_sub_mod (by omega), Nat.mod_eq_of_lt (by omega)]
          have := s2 c
          omega
theorem lv_told (h : ∀ x ∈ v, 1 ≤ x ∧ x ≤ 9) (hn : ∀ x ∈ (told v).tail, ¬ Sum (told v) (x - (v.length + 1))) {r : Nat} (h1 : 1 ≤ r) (h2 : r < v.length + 1) : lv (told v) (v.length + 1) r = wv v r := by
  have hM : 0 < v.length + 1 := by omega
  have N := told_nice v
  have sM : Sum (told v) (v.length + 1) := .gen (told_mem.mpr (.inl rfl))
  have a1 := lv_le N hM (.gen (told_mem.mpr (.inr ⟨r, h1, h2, rfl⟩)) : Sum (told v) (wv v r))
  rw [wv_mod h2] at a1
  rcases Nat.eq_or_lt_of_le a1 with e | e
  · exact e
  · exfalso
    refine hn _ (told_tail.mpr ⟨r, h1, h2, rfl⟩) ?_
    have g := wv_ge h h1 h2
    obtain ⟨k, hk⟩ := mod_le_split (a := lv (told v) (v.length + 1) r) (n := wv v r) (m := v.length + 1) (by rw [lv_mod N hM h2, wv_mod h2]) a1
    have hk0 : 0 < k := by
      rcases Nat.eq_zero_or_pos k with z | z
      · subst z
        omega
      · exact z
    have e2 : wv v r - (v.length + 1) = lv (told v) (v.length + 1) r + (k - 1) * (v.length + 1) := by
      rw [Nat.sub_mul, Nat.one_mul]
      have : v.length + 1 ≤ k * (v.length + 1) := Nat.le_mul_of_pos_left _ hk0
      omega
    rw [e2]
    exact add_mul_sum sM (lv_sum N hM h2) _
theorem lvl_told (h : ∀ x ∈ v, 1 ≤ x ∧ x ≤ 9) (hn : ∀ x ∈ (told v).tail, ¬ Sum (told v) (x - (v.length + 1))) : lvl (told v) (v.length + 1) = v := by
  apply List.ext_getElem
  · rw [lvl_len, Nat.add_sub_cancel]
  · intro i h1 h2
    have e := lvl_at (l := told v) (m := v.length + 1) (r := i + 1) (by omega) (by omega)
    have k := lv_kv (told_nice v) (show 0 < v.length + 1 by omega) (r := i + 1) (by omega)
    rw [lv_told h hn (by omega) (by omega)] at k
    unfold wv at k
    have k2 : at1 v (i + 1) = kv (told v) (v.length + 1) (i + 1) := by
      have : at1 v (i + 1) * (v.length + 1) = kv (told v) (v.length + 1) (i + 1) * (v.length + 1) := by omega
      exact Nat.eq_of_mul_eq_mul_right (by omega) this
    rw [← k2] at e
    unfold at1 at e
    rw [Nat.add_sub_cancel, List.getD_eq_getElem?_getD, List.getD_eq_getElem?_getD, List.getElem?_eq_getElem h1, List.getElem?_eq_getElem h2] at e
    exact e
theorem kz_told (h : ∀ x ∈ v, 1 ≤ x ∧ x ≤ 9) (hl : v.length ≤ 8) : Kz v ↔ ∀ x ∈ (told v).tail, ¬ Sum (told v) (x - (v.length + 1)) := by
  constructor
  · intro k x hx s
    obtain ⟨r, h1, h2, rfl⟩ := told_tail.mp hx
    have g := wv_ge h h1 h2
    have e : (wv v r - (v.length + 1)) % (v.length + 1) = r := by
      rw [← Nat.mod_eq_sub_mod (by omega), wv_mod h2]
    have := kz_least k s (by rw [e]; omega)
    rw [e] at this
    omega
  · intro hn
    refine ⟨hl, h, ?_⟩
    have := lvl_con (told_nice v) (show 0 < v.length + 1 by omega)
    rw [lvl_told h hn] at this
    exact this
/-! ### least elements depend on the sums alone -/
theorem lv_congr {l l' : List Nat} {m : Nat} (h : Nice l) (h' : Nice l') (hm : 0 < m) (e : ∀ n, Sum l n ↔ Sum l' n) {r : Nat} (hr : r < m) : lv l m r = lv l' m r := by
  have a := lv_le h hm ((e _).mpr (lv_sum h' hm hr))
  rw [lv_mod h' hm hr] at a
  have b := lv_le h' hm ((e _).mp (lv_sum h hm hr))
  rw [lv_mod h hm hr] at b
  omega
theorem lvl_congr {l l' : List Nat} {m : Nat} (h : Nice l) (h' : Nice l') (hm : 0 < m) (e : ∀ n, Sum l n ↔ Sum l' n) : lvl l m = lvl l' m := by
  unfold lvl
  apply List.map_congr_left
  intro i hi
  rw [List.mem_range] at hi
  unfold kv
  rw [lv_congr h h' hm e (by omega)]
theorem told_sg (h : ∀ x ∈ v, 1 ≤ x ∧ x ≤ 9) (hl : v.length ≤ 8) : IsSg (gens (told v)) := by
  refine isSg_of (fun z => by cases z) (told_pos v) (fun x hx => by have := told_le h hl x hx; omega) (told_nice v).gcd ?_
  have h1 := mg_sublist (us (told v))
  have h2 := us_len (told v)
  have h3 := told_len v
  have h4 : (gens (told v)).length ≤ (us (told v)).length := h1.length_le
  omega
theorem told_hd (h : ∀ x ∈ v, 1 ≤ x ∧ x ≤ 9) (hl : v.length ≤ 8) : Hd (gens (told v)) (v.length + 1) := by
  have S := told_sg h hl
  obtain ⟨m', d⟩ := S.hd
  have e : m' = v.length + 1 := by
    have h1 : v.length + 1 ≤ m' := by
      rcases told_mem.mp (gens_of d.mem) with e | ⟨r, h1, h2, e⟩
      · omega
      · have := wv_ge h h1 h2
        omega
    have h2 : Sum (gens (told v)) (v.length + 1) := (gens_iff _ _).mpr (.gen (told_mem.mpr (.inl rfl)))
    rcases h2.last with z | ⟨g, w, hg, _, z⟩
    · omega
    · have := S.min d g hg
      omega
  rw [← e]
  exact d
end
end Gp
end

section
set_option linter.all false
set_option backward.match.sparseCases false
set_option maxRecDepth 100000
namespace Sg
open Classical
/-! ### gluings -/
section
variable {l l' : List Nat} {m : Nat}
theorem mem_lvs (h : Nice l) (hm : 0 < m) (he : Sum l m) (w : Nat) : w ∈ lvs l m ↔ (Sum l w ∧ (m ≤ w → ¬ Sum l (w - m))) := by
  constructor
  · intro hw
    obtain ⟨r, hr, e⟩ := List.mem_map.mp hw
    rw [List.mem_range] at hr
    have h1 := lv_mod h hm hr
    rw [e] at h1
    refine ⟨e ▸ lv_sum h hm hr, fun hle hs => ?_⟩
    have h2 := lv_le h hm hs
    rw [← Nat.mod_eq_sub_mod hle, h1, e] at h2
    omega
  · rintro ⟨h1, h2⟩
    have hr := Nat.mod_lt w hm
    refine List.mem_map.mpr ⟨w % m, List.mem_range.mpr hr, ?_⟩
    have h3 := lv_le h hm h1
    rcases Nat.eq_or_lt_of_le h3 with e | e
    · exact e
    · obtain ⟨k, hk⟩ := mod_le_split (lv_mod h hm hr) h3
      have hk0 : 0 < k := by
        rcases Nat.eq_zero_or_pos k with z | z
        · subst z
          omega
        · exact z
      have : m ≤ k * m := Nat.le_mul_of_pos_left m hk0
      refine absurd ?_ (h2 (by omega))
      have h4 : w - m = lv l m (w % m) + (k - 1) * m := by
        rw [Nat.sub_mul, Nat.one_mul]
        omega
      rw [h4]
      exact add_mul_sum he (lv_sum h hm hr) _
theorem lvs_nodup' (h : Nice l) (hm : 0 < m) : (lvs l m).Nodup := by
  unfold lvs
  refine List.pairwise_map.mpr (List.Pairwise.imp_of_mem (fun {x y} hx hy hlt e => ?_) (range_sorted m))
  have h1 := lv_mod h hm (List.mem_range.mp hx)
  have h2 := lv_mod h hm (List.mem_range.mp hy)
  rw [e] at h1
  omega
theorem nodup_flat2 {f : Nat → List Nat} : ∀ L : List Nat, L.Nodup → (∀ r ∈ L, (f r).Nodup) → (∀ r ∈ L, ∀ r' ∈ L, ∀ x, x ∈ f r → x ∈ f r' → r = r') → (L.flatMap f).Nodup
  | [], _, _, _ => List.Pairwise.nil
  | a :: L, h, h1, h2 => by
    rw [List.flatMap_cons]
    have hc := List.nodup_cons.mp h
    refine List.nodup_append.mpr ⟨h1 a List.mem_cons_self, nodup_flat2 L hc.2 (fun r hr => h1 r (List.mem_cons_of_mem _ hr)) (fun r hr r' hr' => h2 r (List.mem_cons_of_mem _ hr) r' (List.mem_cons_of_mem _ hr')), ?_⟩
    intro x hx y hy e
    subst e
    obtain ⟨r, hr, hxr⟩ := List.mem_flatMap.mp hy
    have e1 := h2 a List.mem_cons_self r (List.mem_cons_of_mem _ hr) x hx hxr
    rw [e1] at hc
    exact hc.1 hr
end
/-- the numbers of a gluing -/
def gl (l l' : List Nat) (a b : Nat) : List Nat := l.map (a * ·) ++ l'.map (b * ·)
section
variable {l l' : List Nat} {a b : Nat}
theorem sum_scale (k : Nat) {n : Nat} : Sum (l.map (k * ·)) n ↔ ∃ s, Sum l s ∧ n = k * s := by
  constructor
  · intro h
    induction h with
    | zero => exact ⟨0, .zero, rfl⟩
    | add hg _ ih =>
      obtain ⟨x, hx, rfl⟩ := List.mem_map.mp hg
      obtain ⟨s, hs, rfl⟩ := ih
      exact ⟨s + x, .add hx hs, (Nat.mul_add k s x).symm⟩
  · rintro ⟨s, hs, rfl⟩
    induction hs with
    | zero => exact .zero
    | add hg _ ih =>
      rw [Nat.mul_add]
      exact .add (List.mem_map.mpr ⟨_, hg, rfl⟩) ih
theorem sum_append {n : Nat} : Sum (l ++ l') n ↔ ∃ s t, Sum l s ∧ Sum l' t ∧ n = s + t := by
  constructor
  · intro h
    induction h with
    | zero => exact ⟨0, 0, .zero, .zero, rfl⟩
    | @add g n hg _ ih =>
      obtain ⟨s, t, hs, ht, rfl⟩ := ih
      rcases List.mem_append.mp hg with hg | hg
      · exact ⟨s + g, t, .add hg hs, ht, by omega⟩
      · exact ⟨s, t + g, hs, .add hg ht, by omega⟩
  · rintro ⟨s, t, hs, ht, rfl⟩
    exact (hs.mono fun g hg => List.mem_append_left _ hg).plus (ht.mono fun g hg => List.mem_append_right _ hg)
theorem sum_gl {n : Nat} : Sum (gl l l' a b) n ↔ ∃ s t, Sum l s ∧ Sum l' t ∧ n = a * s + b * t := by
  unfold gl
  rw [sum_append]
  constructor
  · rintro ⟨x, y, hx, hy, rfl⟩
    obtain ⟨s, hs, rfl⟩ := (sum_scale a).mp hx
    obtain ⟨t, ht, rfl⟩ := (sum_scale b).mp hy
    exact ⟨s, t, hs, ht, rfl⟩
  · rintro ⟨s, t, hs, ht, rfl⟩
    exact ⟨_, _, (sum_scale a).mpr ⟨s, hs, rfl⟩, (sum_scale b).mpr ⟨t, ht, rfl⟩, rfl⟩
theorem gl_nice (h : Nice l) (h' : Nice l') (ha : 0 < a) (hb : 0 < b) (hg : Nat.gcd a b = 1) : Nice (gl l l' a b) := by
  refine ⟨fun x hx => ?_, ?_⟩
  · rcases List.mem_append.mp hx with hx | hx
    · obtain ⟨y, hy, rfl⟩ := List.mem_map.mp hx
      exact Nat.mul_pos ha (h.pos y hy)
    · obtain ⟨y, hy, rfl⟩ := List.mem_map.mp hx
      exact Nat.mul_pos hb (h'.pos y hy)
  · have h1 : gcdL (gl l l' a b) ∣ a := by
      -- all large numbers are sums of l
      have s1 : Sum l (cnd l) := cnd_sum h (Nat.le_refl _)
      have s2 : Sum l (cnd l + 1) := cnd_sum h (Nat.le_succ _)
      have g1 := gcdL_sum (sum_gl.mpr ⟨_, 0, s1, .zero, rfl⟩ : Sum (gl l l' a b) (a * cnd l + b * 0))
      have g2 := gcdL_sum (sum_gl.mpr ⟨_, 0, s2, .zero, rfl⟩ : Sum (gl l l' a b) (a * (cnd l + 1) + b * 0))
      rw [Nat.mul_zero, Nat.add_zero] at g1 g2
      rw [Nat.mul_add, Nat.mul_one] at g2
      exact (Nat.dvd_add_right g1).mp g2
    have h2 : gcdL (gl l l' a b) ∣ b := by
      have s1 : Sum l' (cnd l') := cnd_sum h' (Nat.le_refl _)
      have s2 : Sum l' (cnd l' + 1) := cnd_sum h' (Nat.le_succ _)
      have g1 := gcdL_sum (sum_gl.mpr ⟨0, _, .zero, s1, rfl⟩ : Sum (gl l l' a b) (a * 0 + b * cnd l'))
      have g2 := gcdL_sum (sum_gl.mpr ⟨0, _, .zero, s2, rfl⟩ : Sum (gl l l' a b) (a * 0 + b * (cnd l' + 1)))
      rw [Nat.mul_zero, Nat.zero_add] at g1 g2
      rw [Nat.mul_add, Nat.mul_one] at g2
      exact (Nat.dvd_add_right g1).mp g2
    have := Nat.dvd_gcd h1 h2
    rw [hg] at this
    exact Nat.dvd_one.mp this
/-- least elements of the gluing -/
def glP (l l' : List Nat) (a b : Nat) : List Nat := (List.range b).flatMap fun r => (List.range a).map fun q => a * lv l b r + b * lv l' a q
theorem cancel_mod {x y k m : Nat} (hg : Nat.gcd k m = 1) (h : (k * x) % m = (k * y) % m) : x % m = y % m := by
  rcases Nat.le_total x y with hle | hle
  · have h1 : m ∣ k * y - k * x := Nat.dvd_of_mod_eq_zero (Nat.sub_mod_eq_zero_of_mod_eq h.symm)
    rw [← Nat.mul_sub] at h1
    have h2 : m ∣ y - x := Nat.Coprime.dvd_of_dvd_mul_left (Nat.Coprime.symm hg) h1
    obtain ⟨c, hc⟩ := h2
    have : y = x + m * c := by omega
    rw [this, Nat.add_mul_mod_self_left]
  · have h1 : m ∣ k * x - k * y := Nat.dvd_of_mod_eq_zero (Nat.sub_mod_eq_zero_of_mod_eq h)
    rw [← Nat.mul_sub] at h1
    have h2 : m ∣ x - y := Nat.Coprime.dvd_of_dvd_mul_left (Nat.Coprime.symm hg) h1
    obtain ⟨c, hc⟩ := h2
    have : x = y + m * c := by omega
    rw [this, Nat.add_mul_mod_self_left]
theorem two_mod {s t s' t' k : Nat} (hg : Nat.gcd a b = 1) (e : a * s + b * t = a * s' + b * t' + k * (a * b)) : s % b = s' % b ∧ t % a = t' % a := by
  constructor
  · refine cancel_mod hg ?_
    have h1 : (a * s + b * t) % b = (a * s' + b * t' + k * (a * b)) % b := by rw [e]
    rw [Nat.add_mul_mod_self_left, show a * s' + b * t' + k * (a * b) = a * s' + b * (t' + k * a) by rw [Nat.mul_add, ← Nat.add_assoc, Nat.mul_left_comm b k a, Nat.mul_comm b a], Nat.add_mul_mod_self_left] at h1
    exact h1
  · refine cancel_mod (k := b) (by rw [Nat.gcd_comm]; exact hg) ?_
    have h1 : (a * s + b * t) % a = (a * s' + b * t' + k * (a * b)) % a := by rw [e]
    rw [Nat.add_comm (a * s), Nat.add_mul_mod_self_left, show a * s' + b * t' + k * (a * b) = b * t' + a * (s' + k * b) by rw [Nat.mul_add, Nat.mul_left_comm a k b]; omega, Nat.add_mul_mod_self_left] at h1
    exact h1
theorem gl_perm (h : Nice l) (h' : Nice l') (ha : 0 < a) (hb : 0 < b) (hg : Nat.gcd a b = 1) (sa : Sum l' a) (sb : Sum l b) : (glP l l' a b).Perm (lvs (gl l l' a b) (a * b)) := by
  have N := gl_nice h h' ha hb hg
  have hab : 0 < a * b := Nat.mul_pos ha hb
  have sab : Sum (gl l l' a b) (a * b) := sum_gl.mpr ⟨b, 0, sb, .zero, by rw [Nat.mul_zero, Nat.add_zero]⟩
  have inj : ∀ r, r < b → ∀ q, q < a → ∀ r', r' < b → ∀ q', q' < a → a * lv l b r + b * lv l' a q = a * lv l b r' + b * lv l' a q' → r = r' ∧ q = q' := fun r hr q hq r' hr' q' hq' e => by
    have := two_mod (k := 0) hg (show a * lv l b r + b * lv l' a q = a * lv l b r' + b * lv l' a q' + 0 * (a * b) by rw [Nat.zero_mul, Nat.add_zero]; exact e)
    rw [lv_mod h hb hr, lv_mod h hb hr', lv_mod h' ha hq, lv_mod h' ha hq'] at this
    exact this
  rw [List.perm_ext_iff_of_nodup ?_ (lvs_nodup' N hab)]
  · intro w
    rw [mem_lvs N hab sab]
    unfold glP
    rw [List.mem_flatMap]
    constructor
    · rintro ⟨r, hr, hw⟩
      rw [List.mem_range] at hr
      obtain ⟨q, hq, rfl⟩ := List.mem_map.mp hw
      rw [List.mem_range] at hq
      refine ⟨sum_gl.mpr ⟨_, _, lv_sum h hb hr, lv_sum h' ha hq, rfl⟩, fun hle hs => ?_⟩
      obtain ⟨s, t, hs1, ht1, e⟩ := sum_gl.mp hs
      have e2 : a * s + b * t + 1 * (a * b) = a * lv l b r + b * lv l' a q := by omega
      obtain ⟨m1, m2⟩ := two_mod hg e2.symm
      have b1 := lv_le h hb hs1
      have b2 := lv_le h' ha ht1
      rw [← m1, lv_mod h hb hr] at b1
      rw [← m2, lv_mod h' ha hq] at b2
      have c1 := Nat.mul_le_mul_left a b1
      have c2 := Nat.mul_le_mul_left b b2
      omega
    · rintro ⟨hs, hn⟩
      obtain ⟨s, t, hs1, ht1, e⟩ := sum_gl.mp hs
      obtain ⟨k, hk⟩ := mod_le_split (lv_mod h hb (Nat.mod_lt s hb)) (lv_le h hb hs1)
      obtain ⟨j, hj⟩ := mod_le_split (lv_mod h' ha (Nat.mod_lt t ha)) (lv_le h' ha ht1)
      refine ⟨s % b, List.mem_range.mpr (Nat.mod_lt s hb), List.mem_map.mpr ⟨t % a, List.mem_range.mpr (Nat.mod_lt t ha), ?_⟩⟩
      have e2 : w = a * lv l b (s % b) + b * lv l' a (t % a) + (k + j) * (a * b) := by
        rw [e]
        generalize lv l b (s % b) = x at hk
        generalize lv l' a (t % a) = y at hj
        rw [hk, hj]
        grind
      rcases Nat.eq_zero_or_pos (k + j) with z | z
      · rw [e2, z, Nat.zero_mul, Nat.add_zero]
      · exfalso
        have g1 : a * b ≤ (k + j) * (a * b) := Nat.le_mul_of_pos_left _ z
        refine hn (by omega) ?_
        have e3 : w - a * b = a * (lv l b (s % b) + (k + j - 1) * b) + b * lv l' a (t % a) := by
          have g2 : (k + j - 1) * (a * b) = (k + j) * (a * b) - a * b := by rw [Nat.sub_mul, Nat.one_mul]
          rw [Nat.mul_add, Nat.mul_left_comm a (k + j - 1) b]
          omega
        rw [e3]
        exact sum_gl.mpr ⟨_, _, add_mul_sum sb (lv_sum h hb (Nat.mod_lt s hb)) _, lv_sum h' ha (Nat.mod_lt t ha), rfl⟩
  · unfold glP
    refine nodup_flat2 _ List.nodup_range (fun r hr => ?_) fun r hr r' hr' x hx hx' => ?_
    · refine List.pairwise_map.mpr (List.Pairwise.imp_of_mem (fun {x y} hx hy hlt e => ?_) (range_sorted a))
      have := (inj r (List.mem_range.mp hr) x (List.mem_range.mp hx) r (List.mem_range.mp hr) y (List.mem_range.mp hy) e).2
      omega
    · obtain ⟨q, hq, e⟩ := List.mem_map.mp hx
      obtain ⟨q', hq', e'⟩ := List.mem_map.mp hx'
      exact (inj r (List.mem_range.mp hr) q (List.mem_range.mp hq) r' (List.mem_range.mp hr') q' (List.mem_range.mp hq') (e.trans e'.symm)).1
theorem sum_affine (c k : Nat) (f : Nat → Nat) : ∀ L : List Nat, (L.map fun q => c + k * f q).sum = L.length * c + k * (L.map f).sum
  | [] => by simp
  | x :: L => by
    rw [List.map_cons, List.sum_cons, sum_affine c k f L, List.map_cons, List.sum_cons, List.length_cons]
    grind
theorem glP_sum : (glP l l' a b).sum = a * a * (lvs l b).sum + b * b * (lvs l' a).sum := by
  unfold glP
  rw [sum_flat]
  have e1 : ((List.range b).map fun r => ((List.range a).map fun q => a * lv l b r + b * lv l' a q).sum) = (List.range b).map fun r => b * (lvs l' a).sum + (a * a) * lv l b r := by
    apply List.map_congr_left
    intro r _
    rw [sum_affine, List.length_range]
    show _ + b * (lvs l' a).sum = _
    grind
  rw [e1, sum_affine, List.length_range]
  show b * (b * (lvs l' a).sum) + a * a * (lvs l b).sum = _
  grind
theorem gl_cnd (h : Nice l) (h' : Nice l') (ha : 0 < a) (hb : 0 < b) (hg : Nat.gcd a b = 1) (sa : Sum l' a) (sb : Sum l b) : (cnd (gl l l' a b) : Int) - 1 = a * ((cnd l : Int) - 1) + b * ((cnd l' : Int) - 1) + a * b := by
  have N := gl_nice h h' ha hb hg
  have hab : 0 < a * b := Nat.mul_pos ha hb
  have sab : Sum (gl l l' a b) (a * b) := sum_gl.mpr ⟨b, 0, sb, .zero, by rw [Nat.mul_zero, Nat.add_zero]⟩
  have p := gl_perm h h' ha hb hg sa sb
  obtain ⟨W, w1, w2, w3⟩ := lvs_max N hab sab
  obtain ⟨W1, u1, u2, u3⟩ := lvs_max h hb sb
  obtain ⟨W2, v1, v2, v3⟩ := lvs_max h' ha sa
  have e : W = a * W1 + b * W2 := by
    apply Nat.le_antisymm
    · have hw := p.mem_iff.mpr w1
      obtain ⟨r, hr, hx⟩ := List.mem_flatMap.mp hw
      obtain ⟨q, hq, rfl⟩ := List.mem_map.mp hx
      exact Nat.add_le_add (Nat.mul_le_mul_left a (u2 _ (List.mem_map.mpr ⟨r, hr, rfl⟩))) (Nat.mul_le_mul_left b (v2 _ (List.mem_map.mpr ⟨q, hq, rfl⟩)))
    · obtain ⟨r, hr, rfl⟩ := List.mem_map.mp u1
      obtain ⟨q, hq, rfl⟩ := List.mem_map.mp v1
      exact w2 _ (p.mem_iff.mp (List.mem_flatMap.mpr ⟨r, hr, List.mem_map.mpr ⟨q, hq, rfl⟩⟩))
  have w3' : (W : Int) + 1 = cnd (gl l l' a b) + (a : Int) * b := by exact_mod_cast w3
  have u3' : (W1 : Int) + 1 = cnd l + (b : Int) := by exact_mod_cast u3
  have v3' : (W2 : Int) + 1 = cnd l' + (a : Int) := by exact_mod_cast v3
  have e' : (W : Int) = a * W1 + b * W2 := by exact_mod_cast e
  grind
theorem gl_genus (h : Nice l) (h' : Nice l') (ha : 0 < a) (hb : 0 < b) (hg : Nat.gcd a b = 1) (sa : Sum l' a) (sb : Sum l b) : (2 * (gapsL (gl l l' a b)).length : Int) = 2 * a * (gapsL l).length + 2 * b * (gapsL l').length + (a - 1) * (b - 1) := by
  have N := gl_nice h h' ha hb hg
  have hab : 0 < a * b := Nat.mul_pos ha hb
  have sab : Sum (gl l l' a b) (a * b) := sum_gl.mpr ⟨b, 0, sb, .zero, by rw [Nat.mul_zero, Nat.add_zero]⟩
  have s0 := selmer1 N hab sab
  have s1 := selmer1 h hb sb
  have s2 := selmer1 h' ha sa
  rw [← (gl_perm h h' ha hb hg sa sb).sum_nat, glP_sum] at s0
  have c0 : ((a * b : Nat) : Int) = a * b := by exact_mod_cast rfl
  have c1 : ((a * a * (lvs l b).sum + b * b * (lvs l' a).sum : Nat) : Int) = a * a * ((lvs l b).sum : Nat) + b * b * ((lvs l' a).sum : Nat) := by exact_mod_cast rfl
  rw [c1, c0] at s0
  have hab' : (a : Int) * b ≠ 0 := by
    rw [← c0]
    omega
  generalize ((lvs l b).sum : Int) = x1 at s0 s1
  generalize ((lvs l' a).sum : Int) = x2 at s0 s2
  generalize ((gapsL (gl l l' a b)).length : Int) = g0 at *
  generalize ((gapsL l).length : Int) = g1 at *
  generalize ((gapsL l').length : Int) = g2 at *
  have key : (a * b : Int) * (2 * g0) = (a * b : Int) * (2 * a * g1 + 2 * b * g2 + (a - 1) * (b - 1)) := by grind
  exact Int.eq_of_mul_eq_mul_left hab' key
theorem gl_sym (h : Nice l) (h' : Nice l') (ha : 0 < a) (hb : 0 < b) (hg : Nat.gcd a b = 1) (sa : Sum l' a) (sb : Sum l b) : 2 * (gapsL (gl l l' a b)).length = cnd (gl l l' a b) ↔ (2 * (gapsL l).length = cnd l ∧ 2 * (gapsL l').length = cnd l') := by
  have e1 := gl_cnd h h' ha hb hg sa sb
  have e2 := gl_genus h h' ha hb hg sa sb
  have c1 := sym_count h
  have c2 := sym_count h'
  generalize (oddL l).length = o1 at c1
  generalize (oddL l').length = o2 at c2
  generalize cnd (gl l l' a b) = c0 at *
  generalize (gapsL (gl l l' a b)).length = g0 at *
  generalize (gapsL l).length = g1 at *
  generalize (gapsL l').length = g2 at *
  have k1 : (2 * (g1 : Int)) = cnd l + o1 := by exact_mod_cast c1
  have k2 : (2 * (g2 : Int)) = cnd l' + o2 := by exact_mod_cast c2
  generalize cnd l = c3 at *
  generalize cnd l' = c4 at *
  have key : (2 * (g0 : Int)) - c0 = a * o1 + b * o2 := by grind
  have n1 : 0 ≤ (a : Int) * o1 := Int.mul_nonneg (by omega) (by omega)
  have n2 : 0 ≤ (b : Int) * o2 := Int.mul_nonneg (by omega) (by omega)
  constructor
  · intro e
    have z : (a : Int) * o1 + b * o2 = 0 := by omega
    have z1 : (a : Int) * o1 = 0 := by omega
    have z2 : (b : Int) * o2 = 0 := by omega
    have y1 := (Int.mul_eq_zero.mp z1).resolve_left (by omega)
    have y2 := (Int.mul_eq_zero.mp z2).resolve_left (by omega)
    omega
  · rintro ⟨h1, h2⟩
    have y1 : o1 = 0 := by omega
    have y2 : o2 = 0 := by omega
    rw [y1, y2] at key
    simp at key
    omega
end
end Sg
end

section
set_option linter.all false
set_option backward.match.sparseCases false
set_option maxRecDepth 100000
namespace Gp
open G PySem Sg Classical
/-! ### what _law_which tells -/
abbrev rsD (c : Nat) : D := .tup [.str "raised", .int c]
theorem ok_raised (c : Int) : okD (.tup [.str "raised", .int c]) = true := by
  have h : PyData.canLay0 (.str "raised") = true := by decide +kernel
  unfold okD SeqAt.shaped
  simp [D.py, pyA, PyData.depth, PyData.depthAll, PyData.canLay0, PyData.canLayAll0] at h ⊢
  exact h
theorem eqD_raised (c d : Int) : eqD (.tup [.str "raised", .int c]) (.tup [.str "raised", .int d]) = decide (c = d) := by
  unfold eqD
  simp [D.py, pyA, PyData.eqv, PyData.eqvAll]
  rfl
theorem raised_eq (c d : Int) : dEq (.tup [.str "raised", .int c]) (.tup [.str "raised", .int d]) = some (.bl (decide (c = d))) := by
  unfold dEq
  rw [if_pos ⟨ok_raised c, ok_raised d⟩, eqD_raised]
theorem raised_ne (c d : Int) : dNe (.tup [.str "raised", .int c]) (.tup [.str "raised", .int d]) = some (.bl (decide (c ≠ d))) := by
  unfold dNe
  rw [if_pos ⟨ok_raised c, ok_raised d⟩, eqD_raised, ← decide_not]
theorem eqD_raised_n (c : Int) (l : List Nat) : eqD (.tup [.str "raised", .int c]) (.tup (lD l)) = false := by
  unfold eqD
  cases l with
  | nil => simp [D.py, pyA, PyData.eqv, PyData.eqvAll]
  | cons x l => simp [D.py, pyA, PyData.eqv, PyData.eqvAll]
theorem eqD_n_raised (c : Int) (l : List Nat) : eqD (.tup (lD l)) (.tup [.str "raised", .int c]) = false := by
  unfold eqD
  cases l with
  | nil => simp [D.py, pyA, PyData.eqv, PyData.eqvAll]
  | cons x l => simp [D.py, pyA, PyData.eqv, PyData.eqvAll]
/-- a call in a try -/
theorem sCallX_eq {i : Nat} {g : List D → R D} {fr : SA} {s : SD} {n n1 : Nat} {xs : List AV} {ds : List D} {r : R D} (hi : i < s.length) (h1 : fr s n = .ok (xs, n1)) (h2 : G.plain xs = some ds) (h3 : g ds = r) : sCallX i g fr s n = liftR r n1 := by
  unfold sCallX sCallP
  rw [if_pos hi, h1, ← h3]
  simp only [bindE, h2]
theorem sTry_ok {i : Nat} {cs : List Nat} {fe : SE} {s : SD} {n n1 : Nat} {d : D} (hi : i < s.length) (h : fe s n = .ok (d, n1)) : sTry i cs fe s n = .rt d n1 := by
  unfold sTry
  rw [if_pos hi, h]
theorem sTry_ex {i : Nat} {cs : List Nat} {fe : SE} {s : SD} {n c : Nat} (hi : i < s.length) (h : fe s n = .ex c) (hc : c ∈ cs) : sTry i cs fe s n = .rt (rsD c) n := by
  unfold sTry
  rw [if_pos hi, h]
  show (if c ∈ cs then FLg.rt (rsD c) n else .no) = _
  rw [if_pos hc]
end Gp
end

section
set_option linter.all false
set_option backward.match.sparseCases false
set_option maxRecDepth 100000
namespace Sg
open Classical
/-- the ascending list of all gaps of a semigroup -/
structure HL (M : List Nat) : Prop where
  sorted : M.Pairwise (· < ·)
  pos : ∀ x ∈ M, 0 < x
  closed : ∀ a b, a ∉ M → b ∉ M → a + b ∉ M
/-- the numbers from 1 to N that are none of M -/
noncomputable def rl (M : List Nat) (N : Nat) : List Nat := ((List.range N).map (1 + ·)).filter fun x => decide (x ∉ M)
def topM (M : List Nat) : Nat := M.getLastD 0
section
variable {M : List Nat}
theorem mem_rl {N x : Nat} : x ∈ rl M N ↔ 1 ≤ x ∧ x ≤ N ∧ x ∉ M := by
  unfold rl
  rw [List.mem_filter, decide_eq_true_iff, List.mem_map]
  constructor
  · rintro ⟨⟨i, hi, rfl⟩, h⟩
    rw [List.mem_range] at hi
    exact ⟨by omega, by omega, h⟩
  · rintro ⟨h1, h2, h3⟩
    exact ⟨⟨x - 1, List.mem_range.mpr (by omega), by omega⟩, h3⟩
theorem rl_pos {N : Nat} : ∀ x ∈ rl M N, 0 < x := fun x hx => (mem_rl.mp hx).1
theorem rl_len {N : Nat} : (rl M N).length ≤ N := by
  have h1 := List.length_filter_le (fun x => decide (x ∉ M)) ((List.range N).map (1 + ·))
  rw [List.length_map, List.length_range] at h1
  exact h1
theorem topM_ge (h : M.Pairwise (· < ·)) : ∀ x ∈ M, x ≤ topM M := fun x hx => by
  have hne : M ≠ [] := fun z => by rw [z] at hx; cases hx
  have e : M.getLast? = some (topM M) := by
    unfold topM
    rw [List.getLastD_eq_getLast?, List.getLast?_eq_some_getLast hne]
    rfl
  exact (last_max h e).2 x hx
theorem topM_mem (h : M ≠ []) : topM M ∈ M := by
  have e : M.getLast? = some (topM M) := by
    unfold topM
    rw [List.getLastD_eq_getLast?, List.getLast?_eq_some_getLast h]
    rfl
  exact List.mem_of_getLast? e
/-- the least number that is none of M -/
theorem mul_ex (h : HL M) : ∃ m, 1 ≤ m ∧ m ≤ topM M + 1 ∧ m ∉ M ∧ ∀ j, 1 ≤ j → j < m → j ∈ M := by
  have key : ∀ k, (∀ j, 1 ≤ j → j < k + 1 → j ∈ M) ∨ ∃ m, 1 ≤ m ∧ m ≤ k ∧ m ∉ M ∧ ∀ j, 1 ≤ j → j < m → j ∈ M := by
    intro k
    induction k with
    | zero => exact .inl fun j h1 h2 => by omega
    | succ k ih =>
      rcases ih with h1 | ⟨m, a1, a2, a3, a4⟩
      · rcases Classical.em (k + 1 ∈ M) with e | e
        · exact .inl fun j h2 h3 => by
            by_cases z : j = k + 1
            · exact z ▸ e
            · exact h1 j h2 (by omega)
        · exact .inr ⟨k + 1, by omega, Nat.le_refl _, e, h1⟩
      · exact .inr ⟨m, a1, by omega, a3, a4⟩
  rcases key (topM M + 1) with h1 | h1
  · have := topM_ge h.sorted (topM M + 1) (h1 _ (by omega) (by omega))
    omega
  · exact h1
theorem sum_rl (h : HL M) {N m : Nat} (hm1 : 1 ≤ m) (hm : m ∉ M) (hN : topM M + m ≤ N) : ∀ n, Sum (rl M N) n ↔ n ∉ M := by
  have h0 : (0 : Nat) ∉ M := fun z => by have := h.pos 0 z; omega
  intro n
  constructor
  · intro s
    induction s with
    | zero => exact h0
    | add hg _ ih => exact h.closed _ _ ih (mem_rl.mp hg).2.2
  · induction n using Nat.strongRecOn with
    | ind n ih =>
      intro hn
      rcases Nat.eq_zero_or_pos n with z | z
      · rw [z]
        exact .zero
      · rcases Nat.lt_or_ge N n with hlt | hle
        · have h1 : n - m ∉ M := fun y => by
            have := topM_ge h.sorted _ y
            omega
          have h2 := ih (n - m) (by omega) h1
          have h3 : m ∈ rl M N := mem_rl.mpr ⟨hm1, by omega, hm⟩
          have := Sum.add h3 h2
          rwa [show n - m + m = n by omega] at this
        · exact .gen (mem_rl.mpr ⟨z, hle, hn⟩)
/-- the generators of what is no gap -/
noncomputable def gM (M : List Nat) : List Nat := gens (rl M (2 * topM M + 2))
theorem gM_eq (h : HL M) {N m : Nat} (hm1 : 1 ≤ m) (hm : m ∉ M) (hN : topM M + m ≤ N) : gens (rl M N) = gM M := by
  obtain ⟨k, k1, k2, k3, _⟩ := mul_ex h
  exact gens_ext rl_pos rl_pos fun n => (sum_rl h hm1 hm hN n).trans (sum_rl h k1 k3 (by omega) n).symm
theorem sum_gM (h : HL M) (n : Nat) : Sum (gM M) n ↔ n ∉ M := by
  obtain ⟨k, k1, k2, k3, _⟩ := mul_ex h
  exact (gens_iff _ n).trans (sum_rl h k1 k3 (by omega) n)
theorem gM_pos : ∀ x ∈ gM M, 0 < x := fun x hx => rl_pos x (gens_of hx)
theorem gM_nice (h : HL M) : Nice (gM M) := by
  refine ⟨gM_pos, ?_⟩
  have s1 : Sum (gM M) (topM M + 1) := (sum_gM h _).mpr fun z => by have := topM_ge h.sorted _ z; omega
  have s2 : Sum (gM M) (topM M + 2) := (sum_gM h _).mpr fun z => by have := topM_ge h.sorted _ z; omega
  have := (Nat.dvd_add_right (gcdL_sum s1)).mp (show gcdL (gM M) ∣ topM M + 1 + 1 from gcdL_sum s2)
  exact Nat.dvd_one.mp this
theorem gM_gaps (h : HL M) : gapsL (gM M) = M := by
  have N := gM_nice h
  refine sorted_ext (gapsL_sorted _) h.sorted fun k => ?_
  rw [mem_gapsL N.pos N.gcd, sum_gM h, Classical.not_not]
theorem hl_gaps {l : List Nat} (h : Nice l) : HL (gapsL l) := by
  refine ⟨gapsL_sorted l, fun x hx => ?_, fun a b ha hb => ?_⟩
  · rw [mem_gapsL h.pos h.gcd] at hx
    rcases Nat.eq_zero_or_pos x with z | z
    · rw [z] at hx
      exact absurd Sum.zero hx
    · exact z
  · rw [mem_gapsL h.pos h.gcd, Classical.not_not] at ha hb ⊢
    exact ha.plus hb
theorem gM_self {l : List Nat} (h : Nice l) (hs : gens l = l) : gM (gapsL l) = l := by
  have H := hl_gaps h
  have e : gens (gM (gapsL l)) = gens l := gens_ext gM_pos h.pos fun n => by rw [sum_gM H, mem_gapsL h.pos h.gcd, Classical.not_not]
  have e2 : gens (gM (gapsL l)) = gM (gapsL l) := gens_gens _
  rw [← e2, e, hs]
end
end Sg
namespace Gp
open G PySem Sg Classical
/-! ### limited, whatever comes -/
noncomputable def limR (o : List Nat) : R D := if o.length ≤ 12 ∧ ∀ x ∈ o, x ≤ 99 then .ok (.tup (lD o)) else .ex 10
theorem limited_gen {l : List Nat} {c : D} (hc : c = .lst (lD l) ∨ c = .tup (lD l)) (hne : l ≠ []) (hp : ∀ x ∈ l, 0 < x) (hb : ∀ x ∈ l, x < 400000) (hl : l.length < 4000) : g_limited [c] = limR (gens l) := by
  unfold limR
  by_cases h12 : (gens l).length ≤ 12 ∧ ∀ x ∈ gens l, x ≤ 99
  · rw [if_pos h12, limited_eq hc hne hp hb hl h12.1 h12.2]
  · rw [if_neg h12]
    have e1 := reduced_eq hc hne hp hb hl
    have e2 := bLen_of (c := .tup (lD (gens l))) (.inr rfl)
    have e3 : dGt (nD (gens l).length) (.int 12) = _ := dGt_n (gens l).length 12
    have hg : gens l ≠ [] := gens_ne (by
      cases l with
      | nil => exact absurd rfl hne
      | cons x r => exact ⟨x, List.mem_cons_self, hp x List.mem_cons_self⟩)
    have e4 := lD_last hg
    have e5 : dGt (nD ((gens l).getLast hg)) (.int 99) = _ := dGt_n ((gens l).getLast hg) 99
    have e6 : dNeg (.int 1) = some (.int (-1)) := rfl
    show endP (f_limited [.im c, .un] 0) = _
    unfold f_limited
    by_cases h1 : 12 < (gens l).length
    · rw [decide_eq_true h1] at e3
      simp only [sSeq, sNext, sIfS, sRet, sDrop, sAsg, sPar, sAug, sAsgN, sParN, sParM, sApp, sExt, sSetIx, sFrz, sRaise, sVar, sC, sOp, sUn, sCb, sCons, sConsTw, sNil, sTup, sLst, nLst, nOp, sNw, sTest, sAnd, sOr, sNot, sAndV, sOrV, sNotV, sIf, sChain, sIxOw, sLenOw, sSl, sSlOw, sPart, sNoPart, sCallP, liftR, noEx, sThaw, sThawT, sIsi, nSeq, sTick, sYes, bindE, bindS, optE, asB, asI, G.plain, gN, gT, gTs, wipeD, Option.map, Option.bind, List.getElem?_cons_zero, List.getElem?_cons_succ, List.set_cons_zero, List.set_cons_succ, List.getElem?_nil, List.length_cons, List.length_nil, big0, big1, big2, big3, big4, big5, if_true, if_false, Bool.not_true, Bool.not_false, e1, e2, e3, endP]
    · rw [decide_eq_false h1] at e3
      have h2 : 99 < (gens l).getLast hg := by
        rcases Nat.lt_or_ge 99 ((gens l).getLast hg) with z | z
        · exact z
        · refine absurd ⟨by omega, fun x hx => ?_⟩ h12
          have e : (gens l).getLast? = some ((gens l).getLast hg) := List.getLast?_eq_some_getLast hg
          have := (last_max (gens_sorted l) e).2 x hx
          omega
      rw [decide_eq_true h2] at e5
      simp only [sSeq, sNext, sIfS, sRet, sDrop, sAsg, sPar, sAug, sAsgN, sParN, sParM, sApp, sExt, sSetIx, sFrz, sRaise, sVar, sC, sOp, sUn, sCb, sCons, sConsTw, sNil, sTup, sLst, nLst, nOp, sNw, sTest, sAnd, sOr, sNot, sAndV, sOrV, sNotV, sIf, sChain, sIxOw, sLenOw, sSl, sSlOw, sPart, sNoPart, sCallP, liftR, noEx, sThaw, sThawT, sIsi, nSeq, sTick, sYes, bindE, bindS, optE, asB, asI, G.plain, gN, gT, gTs, wipeD, Option.map, Option.bind, List.getElem?_cons_zero, List.getElem?_cons_succ, List.set_cons_zero, List.set_cons_succ, List.getElem?_nil, List.length_cons, List.length_nil, big0, big1, big2, big3, big4, big5, if_true, if_false, Bool.not_true, Bool.not_false, e1, e2, e3, e6, e4, e5, endP]
/-! ### from_gaps -/
theorem mem_dct {M : List Nat} (x : Nat) : decide ((x : Int) ∈ M.map Int.ofNat) = decide (x ∈ M) := by
  apply decide_eq_decide.mpr
  rw [List.mem_map]
  constructor
  · rintro ⟨y, hy, e⟩
    rw [ofN] at e
    have : y = x := by omega
    exact this ▸ hy
  · exact fun h => ⟨x, h, ofN x⟩
theorem dIn_dct {M : List Nat} (x : Nat) : dIn (nD x) (.dct (M.map Int.ofNat)) = some (.bl (decide (x ∈ M))) := by
  show (some (decide ((x : Int) ∈ M.map Int.ofNat))).map D.bl = _
  rw [mem_dct]
  rfl
theorem dNotIn_dct {M : List Nat} (x : Nat) : dNotIn (nD x) (.dct (M.map Int.ofNat)) = some (.bl (decide (x ∉ M))) := by
  show (some (decide ((x : Int) ∈ M.map Int.ofNat))).map (fun b => D.bl (!b)) = _
  rw [mem_dct]
  show some (D.bl (!decide (x ∈ M))) = _
  rw [← decide_not]
theorem fg_while {M : List Nat} {m n : Nat} {x1 x4 : SV} {c : D} (hm : m ∉ M) : ∀ (k fuel i : Nat), i + k = m → k < fuel → 1 ≤ i → (∀ j, 1 ≤ j → j < m → j ∈ M) → sWhile (sTest (sOp dIn (sVar 3) (sVar 2))) (sAug 3 (sC (.int 1))) fuel [.im c, x1, .im (.dct (M.map Int.ofNat)), .im (nD i), x4] n = .nx [.im c, x1, .im (.dct (M.map Int.ofNat)), .im (nD m), x4] n
  | _, 0, _, _, hf, _, _ => by omega
  | 0, fuel + 1, i, hi, hf, h1, hj => by
    have : i = m := by omega
    subst this
    have e1 := dIn_dct (M := M) i
    rw [decide_eq_false hm] at e1
    exact sWhile_stop (by simp only [sSeq, sNext, sIfS, sRet, sDrop, sAsg, sPar, sAug, sAsgN, sParN, sParM, sApp, sExt, sSetIx, sFrz, sRaise, sVar, sC, sOp, sUn, sCb, sCons, sConsTw, sNil, sTup, sLst, nLst, nOp, sNw, sTest, sAnd, sOr, sNot, sAndV, sOrV, sNotV, sIf, sChain, sIxOw, sLenOw, sSl, sSlOw, sPart, sNoPart, sCallP, liftR, noEx, sThaw, sThawT, sIsi, nSeq, sTick, sYes, bindE, bindS, optE, asB, asI, G.plain, gN, gT, gTs, wipeD, Option.map, Option.bind, List.getElem?_cons_zero, List.getElem?_cons_succ, List.set_cons_zero, List.set_cons_succ, List.getElem?_nil, List.length_cons, List.length_nil, big0, big1, big2, big3, big4, big5, if_true, if_false, Bool.not_true, Bool.not_false, e1])
  | k + 1, fuel + 1, i, hi, hf, h1, hj => by
    have e1 := dIn_dct (M := M) i
    rw [decide_eq_true (hj i h1 (by omega))] at e1
    have t1 : sTest (sOp dIn (sVar 3) (sVar 2)) [.im c, x1, .im (.dct (M.map Int.ofNat)), .im (nD i), x4] n = .ok (true, n) := by simp only [sSeq, sNext, sIfS, sRet, sDrop, sAsg, sPar, sAug, sAsgN, sParN, sParM, sApp, sExt, sSetIx, sFrz, sRaise, sVar, sC, sOp, sUn, sCb, sCons, sConsTw, sNil, sTup, sLst, nLst, nOp, sNw, sTest, sAnd, sOr, sNot, sAndV, sOrV, sNotV, sIf, sChain, sIxOw, sLenOw, sSl, sSlOw, sPart, sNoPart, sCallP, liftR, noEx, sThaw, sThawT, sIsi, nSeq, sTick, sYes, bindE, bindS, optE, asB, asI, G.plain, gN, gT, gTs, wipeD, Option.map, Option.bind, List.getElem?_cons_zero, List.getElem?_cons_succ, List.set_cons_zero, List.set_cons_succ, List.getElem?_nil, List.length_cons, List.length_nil, big0, big1, big2, big3, big4, big5, if_true, if_false, Bool.not_true, Bool.not_false, e1]
    have t2 : sAug 3 (sC (.int 1)) [.im c, x1, .im (.dct (M.map Int.ofNat)), .im (nD i), x4] n = .nx [.im c, x1, .im (.dct (M.map Int.ofNat)), .im (nD (i + 1)), x4] n := by
      simp only [sSeq, sNext, sIfS, sRet, sDrop, sAsg, sPar, sAug, sAsgN, sParN, sParM, sApp, sExt, sSetIx, sFrz, sRaise, sVar, sC, sOp, sUn, sCb, sCons, sConsTw, sNil, sTup, sLst, nLst, nOp, sNw, sTest, sAnd, sOr, sNot, sAndV, sOrV, sNotV, sIf, sChain, sIxOw, sLenOw, sSl, sSlOw, sPart, sNoPart, sCallP, liftR, noEx, sThaw, sThawT, sIsi, nSeq, sTick, sYes, bindE, bindS, optE, asB, asI, G.plain, gN, gT, gTs, wipeD, Option.map, Option.bind, List.getElem?_cons_zero, List.getElem?_cons_succ, List.set_cons_zero, List.set_cons_succ, List.getElem?_nil, List.length_cons, List.length_nil, big0, big1, big2, big3, big4, big5, if_true, if_false, Bool.not_true, Bool.not_false]
      rfl
    exact (sWhile_go t1 t2).trans (fg_while hm k fuel (i + 1) (by omega) (by omega) (by omega) hj)
theorem rng_1 {N : Nat} : rangeD 1 N = lD ((List.range N).map (1 + ·)) := by
  unfold rangeD
  show _ = ((List.range N).map (1 + ·)).map nD
  rw [List.map_map]
  apply List.map_congr_left
  intro i _
  show D.int _ = D.int (((1 + i : Nat)) : Int)
  rw [Int.natCast_add]
  rfl
theorem fromGaps_eq {M : List Nat} (h : HL M) (ht : topM M < 1990) (hl : M.length < 10000) : g_from_gaps [.lst (lD M)] = limR (gM M) := by
  obtain ⟨m, m1, m2, m3, m4⟩ := mul_ex h
  have e1 : dNe (.lst (lD M)) (.lst []) = _ := dNe_lst M []
  have e2 : dNeg (.int 1) = some (.int (-1)) := rfl
  have a1 : sIf (sTest (sOp dNe (sVar 0) (sLst sNil))) (sOp dIx (sVar 0) (sUn dNeg (sC (.int 1)))) (sC (.int 0)) [.im (.lst (lD M)), .un, .un, .un, .un] 0 = .ok (nD (topM M), 0) := by
    by_cases hM : M = []
    · subst hM
      rw [decide_eq_false (fun z => z rfl)] at e1
      simp only [sSeq, sNext, sIfS, sRet, sDrop, sAsg, sPar, sAug, sAsgN, sParN, sParM, sApp, sExt, sSetIx, sFrz, sRaise, sVar, sC, sOp, sUn, sCb, sCons, sConsTw, sNil, sTup, sLst, nLst, nOp, sNw, sTest, sAnd, sOr, sNot, sAndV, sOrV, sNotV, sIf, sChain, sIxOw, sLenOw, sSl, sSlOw, sPart, sNoPart, sCallP, liftR, noEx, sThaw, sThawT, sIsi, nSeq, sTick, sYes, bindE, bindS, optE, asB, asI, G.plain, gN, gT, gTs, wipeD, Option.map, Option.bind, List.getElem?_cons_zero, List.getElem?_cons_succ, List.set_cons_zero, List.set_cons_succ, List.getElem?_nil, List.length_cons, List.length_nil, big0, big1, big2, big3, big4, big5, if_true, if_false, Bool.not_true, Bool.not_false, e1]
      rfl
    · rw [decide_eq_true hM] at e1
      have e3 : dIx (.lst (lD M)) (.int (-1)) = some (nD (topM M)) := by
        have := lD_last hM
        have e : topM M = M.getLast hM := by
          unfold topM
          rw [List.getLastD_eq_getLast?, List.getLast?_eq_some_getLast hM]
          rfl
        rw [e]
        exact this
      simp only [sSeq, sNext, sIfS, sRet, sDrop, sAsg, sPar, sAug, sAsgN, sParN, sParM, sApp, sExt, sSetIx, sFrz, sRaise, sVar, sC, sOp, sUn, sCb, sCons, sConsTw, sNil, sTup, sLst, nLst, nOp, sNw, sTest, sAnd, sOr, sNot, sAndV, sOrV, sNotV, sIf, sChain, sIxOw, sLenOw, sSl, sSlOw, sPart, sNoPart, sCallP, liftR, noEx, sThaw, sThawT, sIsi, nSeq, sTick, sYes, bindE, bindS, optE, asB, asI, G.plain, gN, gT, gTs, wipeD, Option.map, Option.bind, List.getElem?_cons_zero, List.getElem?_cons_succ, List.set_cons_zero, List.set_cons_succ, List.getElem?_nil, List.length_cons, List.length_nil, big0, big1, big2, big3, big4, big5, if_true, if_false, Bool.not_true, Bool.not_false, e1, e2, e3]
  have a2 : sDc (nSeq (sVar 0)) 4 [.im (.lst (lD M)), .im (nD (topM M)), .un, .un, .un] 0 = .ok (.dct (M.map Int.ofNat), 0) := by
    unfold sDc
    have hb : (lD M).length < big ∧ 4 < [SV.im (.lst (lD M)), .im (nD (topM M)), .un, .un, .un].length := ⟨big_of (by rw [List.length_map]; omega), by simp⟩
    simp only [sSeq, sNext, sIfS, sRet, sDrop, sAsg, sPar, sAug, sAsgN, sParN, sParM, sApp, sExt, sSetIx, sFrz, sRaise, sVar, sC, sOp, sUn, sCb, sCons, sConsTw, sNil, sTup, sLst, nLst, nOp, sNw, sTest, sAnd, sOr, sNot, sAndV, sOrV, sNotV, sIf, sChain, sIxOw, sLenOw, sSl, sSlOw, sPart, sNoPart, sCallP, liftR, noEx, sThaw, sThawT, sIsi, nSeq, sTick, sYes, bindE, bindS, optE, asB, asI, G.plain, gN, gT, gTs, wipeD, Option.map, Option.bind, List.getElem?_cons_zero, List.getElem?_cons_succ, List.set_cons_zero, List.set_cons_succ, List.getElem?_nil, List.length_cons, List.length_nil, big0, big1, big2, big3, big4, big5, if_true, if_false, Bool.not_true, Bool.not_false, seqOf, intsD_lD]
    exact if_pos hb
  have a3 := fg_while (M := M) (m := m) (n := 0) (x1 := .im (nD (topM M))) (x4 := .un) (c := .lst (lD M)) m3 (m - 1) FUEL 1 (by omega) (by show _ < 1000000; omega) (by omega) m4
  have e5 := dAdd_n (topM M) m
  have e6 : dAdd (nD (topM M + m)) (.int 1) = _ := dAdd_n (topM M + m) 1
  have e7 := lim62_n (n := topM M + m + 1) (by omega)
  have e8 : lim62 (1 : Int) = true := rfl
  have a4 : nRng2 (sCons (sC (.int 1)) (sCons (sOp dAdd (sOp dAdd (sVar 1) (sVar 3)) (sC (.int 1))) sNil)) [.im (.lst (lD M)), .im (nD (topM M)), .im (.dct (M.map Int.ofNat)), .im (nD m), .un] 0 = .ok (lD ((List.range (topM M + m)).map (1 + ·)), 0) := by
    unfold nRng2
    simp only [sSeq, sNext, sIfS, sRet, sDrop, sAsg, sPar, sAug, sAsgN, sParN, sParM, sApp, sExt, sSetIx, sFrz, sRaise, sVar, sC, sOp, sUn, sCb, sCons, sConsTw, sNil, sTup, sLst, nLst, nOp, sNw, sTest, sAnd, sOr, sNot, sAndV, sOrV, sNotV, sIf, sChain, sIxOw, sLenOw, sSl, sSlOw, sPart, sNoPart, sCallP, liftR, noEx, sThaw, sThawT, sIsi, nSeq, sTick, sYes, bindE, bindS, optE, asB, asI, G.plain, gN, gT, gTs, wipeD, Option.map, Option.bind, List.getElem?_cons_zero, List.getElem?_cons_succ, List.set_cons_zero, List.set_cons_succ, List.getElem?_nil, List.length_cons, List.length_nil, big0, big1, big2, big3, big4, big5, if_true, if_false, Bool.not_true, Bool.not_false, e5, e6, e7, e8]
    rw [if_pos ⟨trivial, trivial⟩, show (((topM M + m + 1 : Nat) : Int) - 1).toNat = topM M + m by omega, rng_1]
  have a5 : nLc (nRng2 (sCons (sC (.int 1)) (sCons (sOp dAdd (sOp dAdd (sVar 1) (sVar 3)) (sC (.int 1))) sNil))) (gN 4) (sTest (sOp dNotIn (sVar 4) (sVar 2))) (sVar 4) [4] [.im (.lst (lD M)), .im (nD (topM M)), .im (.dct (M.map Int.ofNat)), .im (nD m), .un] 0 = .ok (lD (rl M (topM M + m)), 0) :=
    nLc_n a4 (by rw [List.length_map, List.length_range]; omega) (fun x => decide (x ∉ M)) nD fun x hx => ⟨_, rfl, by
      have := dNotIn_dct (M := M) x
      simp only [sSeq, sNext, sIfS, sRet, sDrop, sAsg, sPar, sAug, sAsgN, sParN, sParM, sApp, sExt, sSetIx, sFrz, sRaise, sVar, sC, sOp, sUn, sCb, sCons, sConsTw, sNil, sTup, sLst, nLst, nOp, sNw, sTest, sAnd, sOr, sNot, sAndV, sOrV, sNotV, sIf, sChain, sIxOw, sLenOw, sSl, sSlOw, sPart, sNoPart, sCallP, liftR, noEx, sThaw, sThawT, sIsi, nSeq, sTick, sYes, bindE, bindS, optE, asB, asI, G.plain, gN, gT, gTs, wipeD, Option.map, Option.bind, List.getElem?_cons_zero, List.getElem?_cons_succ, List.set_cons_zero, List.set_cons_succ, List.getElem?_nil, List.length_cons, List.length_nil, big0, big1, big2, big3, big4, big5, if_true, if_false, Bool.not_true, Bool.not_false, this], fun _ => rfl⟩
  have hne : rl M (topM M + m) ≠ [] := fun z => by
    have : m ∈ rl M (topM M + m) := mem_rl.mpr ⟨m1, by omega, m3⟩
    rw [z] at this
    cases this
  have a6 : g_limited [.lst (lD (rl M (topM M + m)))] = _ := limited_gen (.inl rfl) hne rl_pos (fun x hx => by have := (mem_rl.mp hx).2.1; omega) (by have := rl_len (M := M) (N := topM M + m); omega)
  rw [gM_eq h m1 m3 (Nat.le_refl _)] at a6
  show endP (f_from_gaps [.im (.lst (lD M)), .un, .un, .un, .un] 0) = _
  unfold f_from_gaps
  refine (congrArg endP ((sSeq_nx (sAsg_eq a1)).trans ((sSeq_nx (sAsg_eq a2)).trans ((sSeq_nx (s' := [.im (.lst (lD M)), .im (nD (topM M)), .im (.dct (M.map Int.ofNat)), .im (nD 1), .un]) (n' := 0) rfl).trans (sSeq_nx a3))))).trans ?_
  unfold limR at a6 ⊢
  by_cases hz : (gM M).length ≤ 12 ∧ ∀ x ∈ gM M, x ≤ 99
  · rw [if_pos hz] at a6 ⊢
    simp only [sSeq, sNext, sIfS, sRet, sDrop, sAsg, sPar, sAug, sAsgN, sParN, sParM, sApp, sExt, sSetIx, sFrz, sRaise, sVar, sC, sOp, sUn, sCb, sCons, sConsTw, sNil, sTup, sLst, nLst, nOp, sNw, sTest, sAnd, sOr, sNot, sAndV, sOrV, sNotV, sIf, sChain, sIxOw, sLenOw, sSl, sSlOw, sPart, sNoPart, sCallP, liftR, noEx, sThaw, sThawT, sIsi, nSeq, sTick, sYes, bindE, bindS, optE, asB, asI, G.plain, gN, gT, gTs, wipeD, Option.map, Option.bind, List.getElem?_cons_zero, List.getElem?_cons_succ, List.set_cons_zero, List.set_cons_succ, List.getElem?_nil, List.length_cons, List.length_nil, big0, big1, big2, big3, big4, big5, if_true, if_false, Bool.not_true, Bool.not_false, a5, a6, endP]
  · rw [if_neg hz] at a6 ⊢
    simp only [sSeq, sNext, sIfS, sRet, sDrop, sAsg, sPar, sAug, sAsgN, sParN, sParM, sApp, sExt, sSetIx, sFrz, sRaise, sVar, sC, sOp, sUn, sCb, sCons, sConsTw, sNil, sTup, sLst, nLst, nOp, sNw, sTest, sAnd, sOr, sNot, sAndV, sOrV, sNotV, sIf, sChain, sIxOw, sLenOw, sSl, sSlOw, sPart, sNoPart, sCallP, liftR, noEx, sThaw, sThawT, sIsi, nSeq, sTick, sYes, bindE, bindS, optE, asB, asI, G.plain, gN, gT, gTs, wipeD, Option.map, Option.bind, List.getElem?_cons_zero, List.getElem?_cons_succ, List.set_cons_zero, List.set_cons_succ, List.getElem?_nil, List.length_cons, List.length_nil, big0, big1, big2, big3, big4, big5, if_true, if_false, Bool.not_true, Bool.not_false, a5, a6, endP]
/-! ### _law_of_holes -/
theorem ofHoles_eq {M : List Nat} (h : HL M) (ht : topM M < 1990) (hl : M.length < 10000) : g__law_of_holes [.lst (lD M)] = .ok (.tup (lD (gM M))) := by
  have f1 : dAdd (.lst (lD M)) (.lst [.int 0]) = some (.lst (lD M ++ [.int 0])) := dAdd_lst (by
    rw [List.length_map]
    simp only [List.length_cons, List.length_nil]
    omega)
  have f2 : bMax [.lst (lD M ++ [.int 0])] = some (nD (topM M)) := by
    refine bMax_int (intsD_app M 0) ?_ fun y hy => ?_
    · by_cases hM : M = []
      · subst hM
        exact List.mem_append_right _ List.mem_cons_self
      · exact List.mem_append_left _ (List.mem_map.mpr ⟨topM M, topM_mem hM, ofN _⟩)
    · rcases List.mem_append.mp hy with hy | hy
      · obtain ⟨x, hx, rfl⟩ := List.mem_map.mp hy
        have := topM_ge h.sorted x hx
        rw [ofN]
        omega
      · rw [List.mem_singleton.mp hy]
        omega
  have e1 := dMul2_n (topM M)
  have e2 : dAdd (nD (2 * topM M)) (.int 3) = _ := dAdd_n (2 * topM M) 3
  have e7 := lim62_n (n := 2 * topM M + 3) (by omega)
  have e8 : lim62 (1 : Int) = true := rfl
  have a4 : nRng2 (sCons (sC (.int 1)) (sCons (sOp dAdd (sOp dMul (sC (.int 2)) (sVar 1)) (sC (.int 3))) sNil)) [.im (.lst (lD M)), .im (nD (topM M)), .un] 0 = .ok (lD ((List.range (2 * topM M + 2)).map (1 + ·)), 0) := by
    unfold nRng2
    simp only [sSeq, sNext, sIfS, sRet, sDrop, sAsg, sPar, sAug, sAsgN, sParN, sParM, sApp, sExt, sSetIx, sFrz, sRaise, sVar, sC, sOp, sUn, sCb, sCons, sConsTw, sNil, sTup, sLst, nLst, nOp, sNw, sTest, sAnd, sOr, sNot, sAndV, sOrV, sNotV, sIf, sChain, sIxOw, sLenOw, sSl, sSlOw, sPart, sNoPart, sCallP, liftR, noEx, sThaw, sThawT, sIsi, nSeq, sTick, sYes, bindE, bindS, optE, asB, asI, G.plain, gN, gT, gTs, wipeD, Option.map, Option.bind, List.getElem?_cons_zero, List.getElem?_cons_succ, List.set_cons_zero, List.set_cons_succ, List.getElem?_nil, List.length_cons, List.length_nil, big0, big1, big2, big3, big4, big5, if_true, if_false, Bool.not_true, Bool.not_false, e1, e2, e7, e8]
    rw [if_pos ⟨trivial, trivial⟩, show (((2 * topM M + 3 : Nat) : Int) - 1).toNat = 2 * topM M + 2 by omega, rng_1]
  have a5 : nLc (nRng2 (sCons (sC (.int 1)) (sCons (sOp dAdd (sOp dMul (sC (.int 2)) (sVar 1)) (sC (.int 3))) sNil))) (gN 2) (sTest (sOp dNotIn (sVar 2) (sVar 0))) (sVar 2) [2] [.im (.lst (lD M)), .im (nD (topM M)), .un] 0 = .ok (lD (rl M (2 * topM M + 2)), 0) :=
    nLc_n a4 (by rw [List.length_map, List.length_range]; omega) (fun x => decide (x ∉ M)) nD fun x hx => ⟨_, rfl, by
      have := dNotIn_n (c := .lst (lD M)) M x (.inl rfl)
      simp only [sSeq, sNext, sIfS, sRet, sDrop, sAsg, sPar, sAug, sAsgN, sParN, sParM, sApp, sExt, sSetIx, sFrz, sRaise, sVar, sC, sOp, sUn, sCb, sCons, sConsTw, sNil, sTup, sLst, nLst, nOp, sNw, sTest, sAnd, sOr, sNot, sAndV, sOrV, sNotV, sIf, sChain, sIxOw, sLenOw, sSl, sSlOw, sPart, sNoPart, sCallP, liftR, noEx, sThaw, sThawT, sIsi, nSeq, sTick, sYes, bindE, bindS, optE, asB, asI, G.plain, gN, gT, gTs, wipeD, Option.map, Option.bind, List.getElem?_cons_zero, List.getElem?_cons_succ, List.set_cons_zero, List.set_cons_succ, List.getElem?_nil, List.length_cons, List.length_nil, big0, big1, big2, big3, big4, big5, if_true, if_false, Bool.not_true, Bool.not_false, this], fun _ => rfl⟩
  have hlen := rl_len (M := M) (N := 2 * topM M + 2)
  have a6 : g__law_least_set [.lst (lD (rl M (2 * topM M + 2)))] = _ := leastSet_eq (.inl rfl) rl_pos (fun x hx => by have := (mem_rl.mp hx).2.1; omega) (by omega)
  show endP (f__law_of_holes [.im (.lst (lD M)), .un, .un] 0) = _
  unfold f__law_of_holes
  simp only [sSeq, sNext, sIfS, sRet, sDrop, sAsg, sPar, sAug, sAsgN, sParN, sParM, sApp, sExt, sSetIx, sFrz, sRaise, sVar, sC, sOp, sUn, sCb, sCons, sConsTw, sNil, sTup, sLst, nLst, nOp, sNw, sTest, sAnd, sOr, sNot, sAndV, sOrV, sNotV, sIf, sChain, sIxOw, sLenOw, sSl, sSlOw, sPart, sNoPart, sCallP, liftR, noEx, sThaw, sThawT, sIsi, nSeq, sTick, sYes, bindE, bindS, optE, asB, asI, G.plain, gN, gT, gTs, wipeD, Option.map, Option.bind, List.getElem?_cons_zero, List.getElem?_cons_succ, List.set_cons_zero, List.set_cons_succ, List.getElem?_nil, List.length_cons, List.length_nil, big0, big1, big2, big3, big4, big5, if_true, if_false, Bool.not_true, Bool.not_false, f1, f2, a5, a6, endP]
  rfl
end Gp
end

section
set_option linter.all false
set_option backward.match.sparseCases false
set_option maxRecDepth 100000
namespace Sg
open Classical
def tri : Nat → Nat
  | 0 => 0
  | n + 1 => tri n + n
theorem tri_mono : ∀ {a b : Nat}, a ≤ b → tri a ≤ tri b
  | a, 0, h => by
    have : a = 0 := by omega
    subst this
    exact Nat.le_refl _
  | a, b + 1, h => by
    by_cases e : a = b + 1
    · subst e
      exact Nat.le_refl _
    · have := tri_mono (a := a) (b := b) (by omega)
      show tri a ≤ tri b + b
      omega
theorem sum_asc {B : Nat} : ∀ {L : List Nat} {lo : Nat}, lo ≤ B + 1 → L.Pairwise (· < ·) → (∀ x ∈ L, lo ≤ x ∧ x ≤ B) → L.sum + tri lo ≤ tri (B + 1)
  | [], lo, hl, _, _ => by
    rw [List.sum_nil, Nat.zero_add]
    exact tri_mono hl
  | a :: L, lo, hl, h, hb => by
    have h1 := hb a List.mem_cons_self
    have ih := sum_asc (L := L) (lo := a + 1) (B := B) (by omega) (List.Pairwise.of_cons h) fun x hx => ⟨List.rel_of_pairwise_cons h hx, (hb x (List.mem_cons_of_mem _ hx)).2⟩
    have h2 := tri_mono h1.1
    have h3 : tri (a + 1) = tri a + a := rfl
    rw [List.sum_cons]
    omega
end Sg
namespace Gp
open G PySem Sg Classical
/-- the greatest gap of numbers up to 20 -/
theorem cnd_20 {l : List Nat} (h : IsSg l) (hb : ∀ x ∈ l, x ≤ 20) : cnd l ≤ 1728 := by
  obtain ⟨m, d⟩ := h.hd
  have h1 := cnd_bnd h.nice
  rw [d.bnd] at h1
  have hm := hb m d.mem
  have h2 := sum_asc (B := 20) (lo := m) (by omega) h.sorted fun x hx => ⟨h.min d x hx, hb x hx⟩
  have h3 : ∀ m, m < 21 → m * (tri 21 - tri m) ≤ 1728 := by decide
  have h4 := h3 m (by omega)
  have e21 : tri (20 + 1) = tri 21 := rfl
  rw [e21] at h2
  have h5 := Nat.mul_le_mul_left m (show l.sum ≤ tri 21 - tri m by omega)
  omega
theorem topM_gaps {l : List Nat} (h : Nice l) : topM (gapsL l) ≤ cnd l := by
  by_cases e : gapsL l = []
  · rw [e]
    exact Nat.zero_le _
  · have := cnd_lt h ((mem_gapsL h.pos h.gcd _).mp (topM_mem e))
    omega
/-- what a try hands out where a semigroup or TooLarge comes -/
noncomputable def limD (o : List Nat) : D := if o.length ≤ 12 ∧ ∀ x ∈ o, x ≤ 99 then .tup (lD o) else rsD 10
theorem limD_ne (o : List Nat) : dNe (limD o) (limD o) = some (.bl false) := by
  unfold limD
  split
  · have := dNe_tup o o
    rwa [decide_eq_false (fun z => z rfl)] at this
  · have := raised_ne 10 10
    rwa [decide_eq_false (fun z => z rfl)] at this
theorem limD_eq (o : List Nat) : dEq (limD o) (limD o) = some (.bl true) := by
  unfold limD
  split
  · have := dEq_tup o o
    rwa [decide_eq_true rfl] at this
  · have := raised_eq 10 10
    rwa [decide_eq_true rfl] at this
theorem try_lim {i : Nat} {cs : List Nat} {fe : SE} {s : SD} {n : Nat} {o : List Nat} (hi : i < s.length) (h : fe s n = liftR (limR o) n) (hc : 10 ∈ cs) : sTry i cs fe s n = .rt (limD o) n := by
  unfold limR at h
  unfold limD
  by_cases z : o.length ≤ 12 ∧ ∀ x ∈ o, x ≤ 99
  · rw [if_pos z] at h ⊢
    exact sTry_ok hi h
  · rw [if_neg z] at h ⊢
    exact sTry_ex hi h hc
/-- the law's own word for it: ("raised", 10) if len(due) > 12 or max(due) > 99 else due -/
theorem due_lim {s : SD} {n i : Nat} {o : List Nat} (hi : s[i]? = some (.im (.tup (lD o)))) (ho : o ≠ []) : sIf (sOr (sTest (sOp dGt (sCb bLen (sCons (sVar i) sNil)) (sC (.int 12)))) (sTest (sOp dGt (sCb bMax (sCons (sVar i) sNil)) (sC (.int 99))))) (sTup (sCons (sC (.str "raised")) (sCons (sC (.int 10)) sNil))) (sVar i) s n = .ok (limD o, n) := by
  have e1 := bLen_of (c := .tup (lD o)) (.inr rfl)
  have e2 : dGt (nD o.length) (.int 12) = _ := dGt_n o.length 12
  obtain ⟨W, w1, w2⟩ := exists_max ho
  have e3 := bMax_of (c := .tup (lD o)) (.inr rfl) w1 w2
  have e4 : dGt (nD W) (.int 99) = _ := dGt_n W 99
  unfold limD
  by_cases h1 : 12 < o.length
  · rw [decide_eq_true h1] at e2
    rw [if_neg (fun z => by have := z.1; omega)]
    simp only [sSeq, sNext, sIfS, sRet, sDrop, sAsg, sPar, sAug, sAsgN, sParN, sParM, sApp, sExt, sSetIx, sFrz, sRaise, sVar, sC, sOp, sUn, sCb, sCons, sConsTw, sNil, sTup, sLst, nLst, nOp, sNw, sTest, sAnd, sOr, sNot, sAndV, sOrV, sNotV, sIf, sChain, sIxOw, sLenOw, sSl, sSlOw, sPart, sNoPart, sCallP, liftR, noEx, sThaw, sThawT, sIsi, nSeq, sTick, sYes, bindE, bindS, optE, asB, asI, G.plain, gN, gT, gTs, wipeD, Option.map, Option.bind, List.getElem?_cons_zero, List.getElem?_cons_succ, List.set_cons_zero, List.set_cons_succ, List.getElem?_nil, List.length_cons, List.length_nil, big0, big1, big2, big3, big4, big5, if_true, if_false, Bool.not_true, Bool.not_false, hi, e1, e2]
    rfl
  · rw [decide_eq_false h1] at e2
    by_cases h2 : 99 < W
    · rw [decide_eq_true h2] at e4
      rw [if_neg (fun z => by have := z.2 W w1; omega)]
      simp only [sSeq, sNext, sIfS, sRet, sDrop, sAsg, sPar, sAug, sAsgN, sParN, sParM, sApp, sExt, sSetIx, sFrz, sRaise, sVar, sC, sOp, sUn, sCb, sCons, sConsTw, sNil, sTup, sLst, nLst, nOp, sNw, sTest, sAnd, sOr, sNot, sAndV, sOrV, sNotV, sIf, sChain, sIxOw, sLenOw, sSl, sSlOw, sPart, sNoPart, sCallP, liftR, noEx, sThaw, sThawT, sIsi, nSeq, sTick, sYes, bindE, bindS, optE, asB, asI, G.plain, gN, gT, gTs, wipeD, Option.map, Option.bind, List.getElem?_cons_zero, List.getElem?_cons_succ, List.set_cons_zero, List.set_cons_succ, List.getElem?_nil, List.length_cons, List.length_nil, big0, big1, big2, big3, big4, big5, if_true, if_false, Bool.not_true, Bool.not_false, hi, e1, e2, e3, e4]
      rfl
    · rw [decide_eq_false h2] at e4
      rw [if_pos ⟨by omega, fun x hx => by have := w2 x hx; omega⟩]
      simp only [sSeq, sNext, sIfS, sRet, sDrop, sAsg, sPar, sAug, sAsgN, sParN, sParM, sApp, sExt, sSetIx, sFrz, sRaise, sVar, sC, sOp, sUn, sCb, sCons, sConsTw, sNil, sTup, sLst, nLst, nOp, sNw, sTest, sAnd, sOr, sNot, sAndV, sOrV, sNotV, sIf, sChain, sIxOw, sLenOw, sSl, sSlOw, sPart, sNoPart, sCallP, liftR, noEx, sThaw, sThawT, sIsi, nSeq, sTick, sYes, bindE, bindS, optE, asB, asI, G.plain, gN, gT, gTs, wipeD, Option.map, Option.bind, List.getElem?_cons_zero, List.getElem?_cons_succ, List.set_cons_zero, List.set_cons_succ, List.getElem?_nil, List.length_cons, List.length_nil, big0, big1, big2, big3, big4, big5, if_true, if_false, Bool.not_true, Bool.not_false, hi, e1, e2, e3, e4]
theorem limD_sg {l : List Nat} (h : IsSg l) : limD l = .tup (lD l) := by
  unfold limD
  rw [if_pos ⟨h.len2, h.hi⟩]
theorem gM_ne {M : List Nat} (h : HL M) : gM M ≠ [] := (gM_nice h).ne
end Gp
end

section
set_option linter.all false
set_option backward.match.sparseCases false
set_option maxRecDepth 100000
namespace Sg
open Classical Gp
section
variable {M l : List Nat} {m x : Nat}
theorem hl_nil : HL [] := ⟨List.Pairwise.nil, fun x h => (by cases h), fun a b _ _ h => (by cases h)⟩
theorem gM_gens (M : List Nat) : gens (gM M) = gM M := gens_gens _
/-- the generators of what is no gap: the numbers that are no sum of two others -/
theorem mem_gM (h : HL M) (x : Nat) : x ∈ gM M ↔ 0 < x ∧ x ∉ M ∧ ∀ a b, 0 < a → 0 < b → a ∉ M → b ∉ M → a + b ≠ x := by
  rw [← gM_gens, mem_gens gM_pos, sum_gM h]
  constructor
  · rintro ⟨h1, h2, h3⟩
    exact ⟨h1, h2, fun a b ha hb h4 h5 => h3 a b ha hb ((sum_gM h a).mpr h4) ((sum_gM h b).mpr h5)⟩
  · rintro ⟨h1, h2, h3⟩
    exact ⟨h1, h2, fun a b ha hb h4 h5 => h3 a b ha hb ((sum_gM h a).mp h4) ((sum_gM h b).mp h5)⟩
theorem hl_lt (h : HL M) : ∀ x ∈ M, x < cnd (gM M) := fun x hx => cnd_lt (gM_nice h) fun z => (sum_gM h x).mp z hx
theorem hl_cnd (h : HL M) : cnd (gM M) ≤ 2 * M.length := by
  have := sym_count (gM_nice h)
  rw [gM_gaps h] at this
  omega
theorem hl_cnd_le (h : HL M) {B : Nat} (hb : ∀ x ∈ M, x < B) : cnd (gM M) ≤ B := by
  rcases Nat.eq_zero_or_pos (cnd (gM M)) with z | z
  · omega
  · have := cnd_gap (gM_nice h) z
    rw [sum_gM h, Classical.not_not] at this
    have := hb _ this
    omega
theorem hl_mul (h : HL M) : ∃ m, 1 ≤ m ∧ m ≤ M.length + 1 ∧ m ∉ M ∧ ∀ j, 1 ≤ j → j < m → j ∈ M := by
  obtain ⟨m, m1, m2, m3, m4⟩ := mul_ex h
  refine ⟨m, m1, ?_, m3, m4⟩
  have hn : ((List.range (m - 1)).map (1 + ·)).Nodup := nodup_of_sorted (List.pairwise_map.mpr (List.Pairwise.imp (fun {a b} hab => by omega) (range_sorted _)))
  have := List.Nodup.length_le_of_subset hn (l₂ := M) fun x hx => by
    obtain ⟨i, hi, rfl⟩ := List.mem_map.mp hx
    rw [List.mem_range] at hi
    exact m4 _ (by omega) (by omega)
  rw [List.length_map, List.length_range] at this
  omega
/-- few and small generators -/
theorem gM_len (h : HL M) (h1 : 0 < m) (h2 : m ∉ M) : (gM M).length ≤ m := by
  have := nodup_len (L := (gM M).map (· % m)) (nodup_map_of (by rw [← gM_gens]; exact gens_sorted _) fun x hx y hy hlt e => ?_) (a := 0) (b := m) fun x hx => by
    obtain ⟨y, _, rfl⟩ := List.mem_map.mp hx
    exact ⟨Nat.zero_le _, Nat.mod_lt _ h1⟩
  · rw [List.length_map] at this
    exact this
  · obtain ⟨k, hk⟩ := mod_le_split e (Nat.le_of_lt hlt)
    have a1 := (mem_gM h x).mp hx
    have a2 := (mem_gM h y).mp hy
    have hk0 : 0 < k := by
      rcases Nat.eq_zero_or_pos k with z | z
      · subst z
        omega
      · exact z
    have a3 : k * m ∉ M := (sum_gM h _).mp (((sum_gM h m).mpr h2).mul k)
    exact a2.2.2 x (k * m) a1.1 (Nat.mul_pos hk0 h1) a1.2.1 a3 hk.symm
theorem gM_le (h : HL M) (h1 : 0 < m) (h2 : m ∉ M) {B : Nat} (hb : ∀ y ∈ M, y ≤ B) : ∀ x ∈ gM M, x ≤ B + m := fun x hx => by
  rcases Nat.lt_or_ge (B + m) x with z | z
  · have a2 := (mem_gM h x).mp hx
    exact absurd (show (x - m) + m = x by omega) (a2.2.2 (x - m) m (by omega) h1 (fun y => by have := hb _ y; omega) h2)
  · exact z
theorem gM_isSg (h : HL M) (h1 : (gM M).length ≤ 12) (h2 : ∀ x ∈ gM M, x ≤ 99) : IsSg (gM M) := by
  have := isSg_of (gM_nice h).ne gM_pos h2 (gM_nice h).gcd (by rw [gM_gens]; exact h1)
  rwa [gM_gens] at this
/-- one gap less -/
theorem drop_lt (h : M.Pairwise (· < ·)) (hne : M ≠ []) : ∀ y, y ∈ M.dropLast ↔ y ∈ M ∧ y ≠ M.getLast hne := by
  have e := List.dropLast_concat_getLast hne
  have h0 := h
  rw [← e] at h0
  have h2 := (List.pairwise_append.mp h0).2.2
  intro y
  constructor
  · intro hy
    exact ⟨(List.dropLast_sublist M).subset hy, Nat.ne_of_lt (h2 y hy _ List.mem_cons_self)⟩
  · rintro ⟨h3, h4⟩
    have h5 := h3
    rw [← e] at h5
    rcases List.mem_append.mp h5 with h3 | h3
    · exact h3
    · exact absurd (List.mem_singleton.mp h3) h4
theorem last_ge (h : M.Pairwise (· < ·)) (hne : M ≠ []) : ∀ y ∈ M, y ≤ M.getLast hne := fun y hy => (last_max h (List.getLast?_eq_some_getLast hne)).2 y hy
theorem hl_drop (h : HL M) (hne : M ≠ []) : HL M.dropLast := by
  have d := drop_lt h.sorted hne
  refine ⟨h.sorted.sublist (List.dropLast_sublist M), fun x hx => h.pos x ((List.dropLast_sublist M).subset hx), fun a b ha hb hab => ?_⟩
  obtain ⟨c1, c2⟩ := (d _).mp hab
  have c3 := last_ge h.sorted hne _ c1
  by_cases ea : a ∈ M
  · have : a = M.getLast hne := Classical.byContradiction fun z => ha ((d a).mpr ⟨ea, z⟩)
    omega
  · by_cases eb : b ∈ M
    · have : b = M.getLast hne := Classical.byContradiction fun z => hb ((d b).mpr ⟨eb, z⟩)
      omega
    · exact h.closed a b ea eb c1
theorem last_gen (h : HL M) (hne : M ≠ []) : M.getLast hne ∈ gM M.dropLast := by
  have d := drop_lt h.sorted hne
  have hm := List.getLast_mem hne
  refine (mem_gM (hl_drop h hne) _).mpr ⟨h.pos _ hm, fun z => ((d _).mp z).2 rfl, fun a b ha hb h1 h2 e => ?_⟩
  have h3 : a ∉ M := fun z => h1 ((d a).mpr ⟨z, by omega⟩)
  have h4 : b ∉ M := fun z => h2 ((d b).mpr ⟨z, by omega⟩)
  exact h.closed a b h3 h4 (e ▸ hm)
/-- one gap more -/
theorem hl_snoc (h : HL M) (hx : x ∈ gM M) (hl : ∀ y ∈ M, y < x) : HL (M ++ [x]) := by
  have g := (mem_gM h x).mp hx
  refine ⟨List.pairwise_append.mpr ⟨h.sorted, List.pairwise_singleton .., fun y hy z hz => by rw [List.mem_singleton.mp hz]; exact hl y hy⟩, fun y hy => ?_, fun a b ha hb hab => ?_⟩
  · rcases List.mem_append.mp hy with hy | hy
    · exact h.pos y hy
    · rw [List.mem_singleton.mp hy]
      exact g.1
  · rw [List.mem_append, not_or, List.mem_singleton] at ha hb
    rcases List.mem_append.mp hab with z | z
    · exact h.closed a b ha.1 hb.1 z
    · rw [List.mem_singleton] at z
      rcases Nat.eq_zero_or_pos a with y | y
      · exact hb.2 (by omega)
      · rcases Nat.eq_zero_or_pos b with w | w
        · exact ha.2 (by omega)
        · exact g.2.2 a b y w ha.1 hb.1 z
theorem snoc_drop : (M ++ [x]).dropLast = M := by simp
/-- a gap more keeps within the limits -/
theorem snoc_lim (h : HL M) (hx : x ∈ gM M) (hl : ∀ y ∈ M, y < x) (h1 : 0 < m) (h2 : m ∉ M) (h3 : m ≤ 11) (h4 : x ≤ 80) : (gM (M ++ [x])).length ≤ 12 ∧ ∀ y ∈ gM (M ++ [x]), y ≤ 99 := by
  have H := hl_snoc h hx hl
  have hb : ∀ y ∈ M ++ [x], y ≤ x := fun y hy => by
    rcases List.mem_append.mp hy with hy | hy
    · exact Nat.le_of_lt (hl y hy)
    · exact Nat.le_of_eq (List.mem_singleton.mp hy)
  have key : ∃ k, 0 < k ∧ k ∉ M ++ [x] ∧ k ≤ 12 := by
    by_cases e : m = x
    · refine ⟨m + 1, by omega, fun z => ?_, by omega⟩
      have := hb _ z
      omega
    · exact ⟨m, h1, fun z => (List.mem_append.mp z).elim h2 (fun y => e (List.mem_singleton.mp y)), by omega⟩
  obtain ⟨k, k1, k2, k3⟩ := key
  refine ⟨Nat.le_trans (gM_len H k1 k2) k3, fun y hy => ?_⟩
  have := gM_le H k1 k2 hb y hy
  omega
/-- few gaps -/
theorem small_isSg (h : HL M) (hl : M.length ≤ 11) : IsSg (gM M) := by
  obtain ⟨m, m1, m2, m3, _⟩ := hl_mul h
  have h1 := hl_cnd h
  refine gM_isSg h (Nat.le_trans (gM_len h m1 m3) (by omega)) fun x hx => ?_
  have := gM_le h m1 m3 (B := 2 * M.length) (fun y hy => by have := hl_lt h y hy; omega) x hx
  omega
end
end Sg
end

section
set_option linter.all false
set_option backward.match.sparseCases false
set_option maxRecDepth 100000
namespace Gp
open G PySem Sg Classical
/-! ### lists of tuples of numbers -/
abbrev tpD (l : List Nat) : D := .tup (lD l)
abbrev rS (L : List (List Nat)) : D := .lst (L.map tpD)
theorem depA_rows : ∀ L : List (List Nat), depA (L.map tpD) ≤ 1
  | [] => Nat.zero_le _
  | l :: L => by
    have h1 := depA_lD l
    have h2 := depA_rows L
    show max (1 + depA (lD l)) (depA (L.map tpD)) ≤ 1
    omega
theorem ok_rows (L : List (List Nat)) : okD (rS L) = true := okD_of (by
  show 1 + depA (L.map tpD) ≤ 64
  have := depA_rows L
  omega)
theorem eqvAll_rows : ∀ L L' : List (List Nat), PyData.eqvAll (pyA (L.map tpD)) (pyA (L'.map tpD)) = decide (L = L')
  | [], [] => rfl
  | [], _ :: _ => rfl
  | _ :: _, [] => rfl
  | a :: L, b :: L' => by
    show (PyData.eqv (tpD a).py (tpD b).py && PyData.eqvAll (pyA (L.map tpD)) (pyA (L'.map tpD))) = _
    rw [eqvAll_rows L L', show PyData.eqv (tpD a).py (tpD b).py = decide (a = b) from eqD_tup a b, Bool.eq_iff_iff]
    simp
theorem eqD_rows (L L' : List (List Nat)) : eqD (rS L) (rS L') = decide (L = L') := eqvAll_rows L L'
theorem dEq_rows (L L' : List (List Nat)) : dEq (rS L) (rS L') = some (.bl (decide (L = L'))) := by
  unfold dEq
  rw [if_pos ⟨ok_rows L, ok_rows L'⟩, eqD_rows]
theorem dNe_rows (L L' : List (List Nat)) : dNe (rS L) (rS L') = some (.bl (decide (L ≠ L'))) := by
  unfold dNe
  rw [if_pos ⟨ok_rows L, ok_rows L'⟩, eqD_rows, ← decide_not]
theorem any_rows (x : List Nat) : ∀ L : List (List Nat), ((L.map tpD).any fun y => eqD y (tpD x)) = decide (x ∈ L)
  | [] => rfl
  | l :: L => by
    rw [List.map_cons, List.any_cons, any_rows x L, eqD_tup]
    by_cases h1 : l = x
    · rw [decide_eq_true h1, decide_eq_true (show x ∈ l :: L from h1 ▸ List.mem_cons_self)]
      rfl
    · rw [decide_eq_false h1, Bool.false_or]
      apply decide_eq_decide.mpr
      rw [List.mem_cons]
      exact ⟨.inr, fun z => z.resolve_left fun y => h1 y.symm⟩
theorem inD_rows (x : List Nat) (L : List (List Nat)) : inD (tpD x) (rS L) = some (decide (x ∈ L)) := by
  unfold inD
  dsimp only
  rw [if_neg (fun z => nomatch z.1), if_pos ⟨ok_tup x, ok_rows L⟩, any_rows]
theorem dNotIn_rows (x : List Nat) (L : List (List Nat)) : dNotIn (tpD x) (rS L) = some (.bl (decide (x ∉ L))) := by
  unfold dNotIn
  rw [inD_rows]
  show some (D.bl (!decide (x ∈ L))) = _
  rw [← decide_not]
theorem any_raised (c : Int) : ∀ L : List (List Nat), ((L.map tpD).any fun y => eqD y (.tup [.str "raised", .int c])) = false
  | [] => rfl
  | l :: L => by
    rw [List.map_cons, List.any_cons, any_raised c L, eqD_n_raised]
    rfl
theorem dIn_raised (c : Int) (L : List (List Nat)) : dIn (.tup [.str "raised", .int c]) (rS L) = some (.bl false) := by
  unfold dIn
  have : inD (.tup [.str "raised", .int c]) (rS L) = some false := by
    unfold inD
    dsimp only
    rw [if_neg (fun z => nomatch z.1), if_pos ⟨ok_raised c, ok_rows L⟩, any_raised]
  rw [this]
  rfl
/-- sorted -/
def sN (L : List (List Nat)) : List (List Nat) := (sortR (L.map (·.map Int.ofNat))).map (·.map Int.toNat)
theorem ofNat_inv (l : List Nat) : (l.map Int.ofNat).map Int.toNat = l := by
  rw [List.map_map]
  conv => rhs; rw [← List.map_id l]
  exact List.map_congr_left fun x _ => rfl
theorem rowD_n (l : List Nat) : rowD (l.map Int.ofNat) = tpD l := by
  show D.tup ((l.map Int.ofNat).map D.int) = D.tup (l.map nD)
  rw [List.map_map]
  rfl
theorem rowsD_n : ∀ L : List (List Nat), (∀ l ∈ L, l ≠ []) → rowsD (L.map tpD) = some (L.map (·.map Int.ofNat))
  | [], _ => rfl
  | [] :: L, h => absurd rfl (h [] List.mem_cons_self)
  | (x :: l) :: L, h => by
    have ih := rowsD_n L fun l hl => h l (List.mem_cons_of_mem _ hl)
    show (match intsD (lD (x :: l)) with
      | some (k :: ks) => (rowsD (L.map tpD)).map ((k :: ks) :: ·)
      | _ => none) = _
    rw [intsD_lD, ih]
    rfl
theorem sort_rows {L : List (List Nat)} (h : ∀ l ∈ L, l ≠ []) : bSort2 [rS L] = some (rS (sN L)) := by
  show (match rowsD (L.map tpD) with
    | some kss => some (D.lst ((sortR kss).map rowD))
    | none => bSorted [rS L]) = _
  rw [rowsD_n L h]
  show some (D.lst ((sortR (L.map (·.map Int.ofNat))).map rowD)) = some (D.lst (((sortR (L.map (·.map Int.ofNat))).map (·.map Int.toNat)).map tpD))
  rw [List.map_map]
  congr 2
  apply List.map_congr_left
  intro ks hk
  have hk2 := (sortR_perm (L.map (·.map Int.ofNat))).mem_iff.mp hk
  obtain ⟨l, _, rfl⟩ := List.mem_map.mp hk2
  show rowD (l.map Int.ofNat) = tpD ((l.map Int.ofNat).map Int.toNat)
  rw [ofNat_inv, rowD_n]
theorem sN_perm (L : List (List Nat)) : (sN L).Perm L := by
  have h := (sortR_perm (L.map (·.map Int.ofNat))).map (fun ks : List Int => ks.map Int.toNat)
  rw [List.map_map] at h
  have e : L.map ((fun ks : List Int => ks.map Int.toNat) ∘ fun l : List Nat => l.map Int.ofNat) = L := by
    conv => rhs; rw [← List.map_id L]
    exact List.map_congr_left fun x _ => ofNat_inv x
  rw [e] at h
  exact h
theorem ne_int_str (i : Int) : dNe (.int i) (.str "raised") = some (.bl true) := by
  unfold dNe
  have h : PyData.canLay0 (.str "raised") = true := by decide +kernel
  have h2 : okD (.str "raised") = true := by
    unfold okD SeqAt.shaped
    simp [D.py, PyData.depth] at h ⊢
    exact h
  have h1 : okD (.int i) = true := by
    unfold okD SeqAt.shaped
    simp [D.py, PyData.depth, PyData.canLay0]
  rw [if_pos ⟨h1, h2⟩]
  unfold eqD
  simp [D.py, PyData.eqv]
theorem ne_tup_str (l : List Nat) : dNe (tpD l) (.str "raised") = some (.bl true) := by
  unfold dNe
  have h : PyData.canLay0 (.str "raised") = true := by decide +kernel
  have h2 : okD (.str "raised") = true := by
    unfold okD SeqAt.shaped
    simp [D.py, PyData.depth] at h ⊢
    exact h
  rw [if_pos ⟨ok_tup l, h2⟩]
  unfold eqD
  simp [D.py, PyData.eqv]
theorem ne_str_str : dNe (.str "raised") (.str "raised") = some (.bl false) := by
  unfold dNe
  have h : PyData.canLay0 (.str "raised") = true := by decide +kernel
  have h2 : okD (.str "raised") = true := by
    unfold okD SeqAt.shaped
    simp [D.py, PyData.depth] at h ⊢
    exact h
  rw [if_pos ⟨h2, h2⟩]
  unfold eqD
  simp [D.py, PyData.eqv]
end Gp
end

section
set_option linter.all false
set_option backward.match.sparseCases false
set_option maxRecDepth 100000
namespace Gp
open G PySem Sg Classical
theorem sg_one {u : List Nat} (h : IsSg u) (hG : gapsL u = []) : u = [1] := by
  have hs : ∀ n, Sum u n := fun n => by
    have := mem_gapsL h.nice.pos h.gcd n
    rw [hG] at this
    exact Classical.not_not.mp fun z => nomatch this.mpr z
  have h1 : gens u = [1] := sorted_ext (gens_sorted u) (List.pairwise_singleton ..) fun k => by
    rw [mem_gens h.nice.pos, List.mem_singleton]
    constructor
    · rintro ⟨a1, _, a3⟩
      by_cases e : k = 1
      · exact e
      · exact absurd (show 1 + (k - 1) = k by omega) (a3 1 (k - 1) (by omega) (by omega) (hs _) (hs _))
    · rintro rfl
      exact ⟨by omega, hs _, fun a b ha hb _ _ => by omega⟩
  rw [← h.self, h1]
theorem gaps_one : gapsL [1] = [] := by
  have hp : ∀ x ∈ [1], 0 < x := fun x hx => by rw [List.mem_singleton.mp hx]; decide
  refine List.eq_nil_iff_forall_not_mem.mpr fun x hx => ?_
  rw [mem_gapsL hp rfl] at hx
  have h1 : Sum [1] 1 := .gen List.mem_cons_self
  have := h1.mul x
  rw [Nat.mul_one] at this
  exact hx this
theorem cut_drop (l : List Nat) : cutL (lD l) none (some (-1)) = lD l.dropLast := by
  by_cases h : l = []
  · subst h
    rfl
  · have hl : 0 < l.length := List.length_pos_iff.mpr h
    have e1 : HT.sIx (lD l).length (lD l).length (some (-1)) = l.length - 1 := by
      unfold HT.sIx
      rw [List.length_map]
      simp
      omega
    unfold cutL
    rw [e1]
    show ((lD l).drop 0).take (l.length - 1 - 0) = _
    rw [List.drop_zero, Nat.sub_zero, ← List.map_take, List.dropLast_eq_take]
theorem gaps_len2 {u : List Nat} (h : IsSg u) {B : Nat} (hc : cnd u ≤ B) : (gapsL u).length ≤ B := by
  have := nodup_len (nodup_of_sorted (gapsL_sorted u)) (a := 0) (b := B) fun x hx => ⟨Nat.zero_le _, by
    have := cnd_lt h.nice ((mem_gapsL h.nice.pos h.gcd x).mp hx)
    omega⟩
  omega
theorem topM_le {M : List Nat} {B : Nat} (hb : ∀ x ∈ M, x ≤ B) : topM M ≤ B := by
  by_cases e : M = []
  · rw [e]
    exact Nat.zero_le _
  · exact hb _ (topM_mem e)
theorem parent_eq {u : List Nat} (h : IsSg u) (h1 : u ≠ [1]) (hc : cnd u ≤ 1800) : g_parent [.tup (lD u)] = limR (gM (gapsL u).dropLast) := by
  have hne : gapsL u ≠ [] := fun z => h1 (sg_one h z)
  have H := hl_drop (hl_gaps h.nice) hne
  have e1 := h.check
  have e2 : dEq (.tup (lD u)) (.tup [.int 1]) = _ := dEq_tup u [1]
  rw [decide_eq_false h1] at e2
  have e3 := h.gapl
  have e4 : dNeg (.int 1) = some (.int (-1)) := rfl
  have e5 : dSl (.lst (lD (gapsL u))) none (some (-1)) = some (.lst (lD (gapsL u).dropLast)) := by
    show some (D.lst (cutL (lD (gapsL u)) none (some (-1)))) = _
    rw [cut_drop]
  have hlen := gaps_len2 h hc
  have e7 : g_from_gaps [.lst (lD (gapsL u).dropLast)] = _ := fromGaps_eq H (by
    have := topM_le (M := (gapsL u).dropLast) (B := 1800) fun x hx => by
      have := cnd_lt h.nice ((mem_gapsL h.nice.pos h.gcd x).mp ((List.dropLast_sublist _).subset hx))
      omega
    omega) (by rw [List.length_dropLast]; omega)
  show endP (f_parent [.im (.tup (lD u))] 0) = _
  unfold f_parent
  unfold limR at e7 ⊢
  by_cases z : (gM (gapsL u).dropLast).length ≤ 12 ∧ ∀ x ∈ gM (gapsL u).dropLast, x ≤ 99
  · rw [if_pos z] at e7 ⊢
    simp only [sSeq, sNext, sIfS, sRet, sDrop, sAsg, sPar, sAug, sAsgN, sParN, sParM, sApp, sExt, sSetIx, sFrz, sRaise, sVar, sC, sOp, sUn, sCb, sCons, sConsTw, sNil, sTup, sLst, nLst, nOp, sNw, sTest, sAnd, sOr, sNot, sAndV, sOrV, sNotV, sIf, sChain, sIxOw, sLenOw, sSl, sSlOw, sPart, sNoPart, sCallP, liftR, noEx, sThaw, sThawT, sIsi, nSeq, sTick, sYes, bindE, bindS, optE, asB, asI, G.plain, gN, gT, gTs, wipeD, Option.map, Option.bind, List.getElem?_cons_zero, List.getElem?_cons_succ, List.set_cons_zero, List.set_cons_succ, List.getElem?_nil, List.length_cons, List.length_nil, big0, big1, big2, big3, big4, big5, if_true, if_false, Bool.not_true, Bool.not_false, e1, e2, e3, e4, e5, e7, endP]
  · rw [if_neg z] at e7 ⊢
    simp only [sSeq, sNext, sIfS, sRet, sDrop, sAsg, sPar, sAug, sAsgN, sParN, sParM, sApp, sExt, sSetIx, sFrz, sRaise, sVar, sC, sOp, sUn, sCb, sCons, sConsTw, sNil, sTup, sLst, nLst, nOp, sNw, sTest, sAnd, sOr, sNot, sAndV, sOrV, sNotV, sIf, sChain, sIxOw, sLenOw, sSl, sSlOw, sPart, sNoPart, sCallP, liftR, noEx, sThaw, sThawT, sIsi, nSeq, sTick, sYes, bindE, bindS, optE, asB, asI, G.plain, gN, gT, gTs, wipeD, Option.map, Option.bind, List.getElem?_cons_zero, List.getElem?_cons_succ, List.set_cons_zero, List.set_cons_succ, List.getElem?_nil, List.length_cons, List.length_nil, big0, big1, big2, big3, big4, big5, if_true, if_false, Bool.not_true, Bool.not_false, e1, e2, e3, e4, e5, e7, endP]
theorem sg_1 : IsSg [1] := by
  have hp : ∀ x ∈ [1], 0 < x := fun x hx => by rw [List.mem_singleton.mp hx]; decide
  refine ⟨by decide, by decide, hp, fun x hx => by rw [List.mem_singleton.mp hx]; decide, rfl, sorted_ext (gens_sorted _) (List.pairwise_singleton ..) fun k => ⟨gens_of, fun hk => ?_⟩⟩
  rw [List.mem_singleton.mp hk]
  exact (mem_gens hp 1).mpr ⟨by decide, .gen List.mem_cons_self, fun a b ha hb _ _ => by omega⟩
theorem parent_one : g_parent [.tup (lD [1])] = .ex 9 := by
  have e1 := sg_1.check
  have e2 : dEq (.tup (lD [1])) (.tup [.int 1]) = _ := dEq_tup [1] [1]
  rw [decide_eq_true rfl] at e2
  show endP (f_parent [.im (.tup (lD [1]))] 0) = _
  unfold f_parent
  simp only [sSeq, sNext, sIfS, sRet, sDrop, sAsg, sPar, sAug, sAsgN, sParN, sParM, sApp, sExt, sSetIx, sFrz, sRaise, sVar, sC, sOp, sUn, sCb, sCons, sConsTw, sNil, sTup, sLst, nLst, nOp, sNw, sTest, sAnd, sOr, sNot, sAndV, sOrV, sNotV, sIf, sChain, sIxOw, sLenOw, sSl, sSlOw, sPart, sNoPart, sCallP, liftR, noEx, sThaw, sThawT, sIsi, nSeq, sTick, sYes, bindE, bindS, optE, asB, asI, G.plain, gN, gT, gTs, wipeD, Option.map, Option.bind, List.getElem?_cons_zero, List.getElem?_cons_succ, List.set_cons_zero, List.set_cons_succ, List.getElem?_nil, List.length_cons, List.length_nil, big0, big1, big2, big3, big4, big5, if_true, if_false, Bool.not_true, Bool.not_false, e1, e2, endP]
/-- the children, as they come -/
noncomputable def chL (u : List Nat) : List (List Nat) := (u.filter fun x => decide (cnd u ≤ x)).map fun x => gM (gapsL u ++ [x])
theorem kid_hl {u : List Nat} (h : IsSg u) {x : Nat} (hx : x ∈ u) (hc : cnd u ≤ x) : HL (gapsL u ++ [x]) :=
  hl_snoc (hl_gaps h.nice) (by rw [gM_self h.nice h.self]; exact hx) fun y hy => by
    have := cnd_lt h.nice ((mem_gapsL h.nice.pos h.gcd y).mp hy)
    omega
theorem kid_top {u : List Nat} (h : IsSg u) {x : Nat} (hx : x ∈ u) (hc : cnd u ≤ x) : topM (gapsL u ++ [x]) ≤ 99 := topM_le fun y hy => by
  have h9 := h.hi x hx
  rcases List.mem_append.mp hy with hy | hy
  · have := cnd_lt h.nice ((mem_gapsL h.nice.pos h.gcd y).mp hy)
    omega
  · rw [List.mem_singleton.mp hy]
    exact h9
theorem kid_len {u : List Nat} (h : IsSg u) {x : Nat} (hx : x ∈ u) (hc : cnd u ≤ x) : (gapsL u ++ [x]).length ≤ 100 := by
  have h9 := h.hi x hx
  have := gaps_len2 h (B := 99) (by omega)
  rw [List.length_append]
  simp only [List.length_cons, List.length_nil]
  omega
theorem kid_add {u : List Nat} (h : IsSg u) {x : Nat} : dAdd (.lst (lD (gapsL u))) (.lst [nD x]) = some (.lst (lD (gapsL u ++ [x]))) := by
  have := h.len_gaps
  rw [dAdd_lst (by rw [List.length_map]; simp only [List.length_cons, List.length_nil]; omega)]
  show some (D.lst ((gapsL u).map nD ++ [x].map nD)) = _
  rw [← List.map_append]
theorem childrenOf_eq {u : List Nat} (h : IsSg u) (hl : ∀ x ∈ u, cnd u ≤ x → (gM (gapsL u ++ [x])).length ≤ 12 ∧ ∀ y ∈ gM (gapsL u ++ [x]), y ≤ 99) : g_children_of [.tup (lD u)] = .ok (rS (sN (chL u))) := by
  have e3 := h.gapl
  have e4 := h.great
  have hu := h.len2
  have e5 : nLc (nSeq (sVar 0)) (gN 3) (sTest (sOp dGt (sVar 3) (sVar 2))) (sCallP g_from_gaps (sCons (sOp dAdd (sVar 1) (sLst (sCons (sVar 3) sNil))) sNil)) [3] [.im (.tup (lD u)), .im (.lst (lD (gapsL u))), .im (.int ((cnd u : Int) - 1)), .un] 0 = .ok ((chL u).map tpD, 0) := by
    have := nLc_n (it := nSeq (sVar 0)) (tg := gN 3) (ft := sTest (sOp dGt (sVar 3) (sVar 2))) (fe := sCallP g_from_gaps (sCons (sOp dAdd (sVar 1) (sLst (sCons (sVar 3) sNil))) sNil)) (vs := [3]) (s := [.im (.tup (lD u)), .im (.lst (lD (gapsL u))), .im (.int ((cnd u : Int) - 1)), .un]) (n := 0) (l := u) (by simp only [sSeq, sNext, sIfS, sRet, sDrop, sAsg, sPar, sAug, sAsgN, sParN, sParM, sApp, sExt, sSetIx, sFrz, sRaise, sVar, sC, sOp, sUn, sCb, sCons, sConsTw, sNil, sTup, sLst, nLst, nOp, sNw, sTest, sAnd, sOr, sNot, sAndV, sOrV, sNotV, sIf, sChain, sIxOw, sLenOw, sSl, sSlOw, sPart, sNoPart, sCallP, liftR, noEx, sThaw, sThawT, sIsi, nSeq, sTick, sYes, bindE, bindS, optE, asB, asI, G.plain, gN, gT, gTs, wipeD, Option.map, Option.bind, List.getElem?_cons_zero, List.getElem?_cons_succ, List.set_cons_zero, List.set_cons_succ, List.getElem?_nil, List.length_cons, List.length_nil, big0, big1, big2, big3, big4, big5, if_true, if_false, Bool.not_true, Bool.not_false, seqOf]) (by omega) (fun x => decide (cnd u ≤ x)) (fun x => tpD (gM (gapsL u ++ [x]))) fun x hx => ⟨_, rfl, by
      have f1 : dGt (nD x) (.int ((cnd u : Int) - 1)) = some (.bl (decide (cnd u ≤ x))) := by
        show some (D.bl (ltI ((cnd u : Int) - 1) (x : Int))) = _
        rw [ltI_eq]
        congr 2
        exact decide_eq_decide.mpr (by omega)
      simp only [sSeq, sNext, sIfS, sRet, sDrop, sAsg, sPar, sAug, sAsgN, sParN, sParM, sApp, sExt, sSetIx, sFrz, sRaise, sVar, sC, sOp, sUn, sCb, sCons, sConsTw, sNil, sTup, sLst, nLst, nOp, sNw, sTest, sAnd, sOr, sNot, sAndV, sOrV, sNotV, sIf, sChain, sIxOw, sLenOw, sSl, sSlOw, sPart, sNoPart, sCallP, liftR, noEx, sThaw, sThawT, sIsi, nSeq, sTick, sYes, bindE, bindS, optE, asB, asI, G.plain, gN, gT, gTs, wipeD, Option.map, Option.bind, List.getElem?_cons_zero, List.getElem?_cons_succ, List.set_cons_zero, List.set_cons_succ, List.getElem?_nil, List.length_cons, List.length_nil, big0, big1, big2, big3, big4, big5, if_true, if_false, Bool.not_true, Bool.not_false, f1], fun hp => by
        have hc := of_decide_eq_true hp
        have f2 := kid_add h (x := x)
        have f3 := fromGaps_eq (kid_hl h hx hc) (by have := kid_top h hx hc; omega) (by have := kid_len h hx hc; omega)
        unfold limR at f3
        rw [if_pos (hl x hx hc)] at f3
        simp only [sSeq, sNext, sIfS, sRet, sDrop, sAsg, sPar, sAug, sAsgN, sParN, sParM, sApp, sExt, sSetIx, sFrz, sRaise, sVar, sC, sOp, sUn, sCb, sCons, sConsTw, sNil, sTup, sLst, nLst, nOp, sNw, sTest, sAnd, sOr, sNot, sAndV, sOrV, sNotV, sIf, sChain, sIxOw, sLenOw, sSl, sSlOw, sPart, sNoPart, sCallP, liftR, noEx, sThaw, sThawT, sIsi, nSeq, sTick, sYes, bindE, bindS, optE, asB, asI, G.plain, gN, gT, gTs, wipeD, Option.map, Option.bind, List.getElem?_cons_zero, List.getElem?_cons_succ, List.set_cons_zero, List.set_cons_succ, List.getElem?_nil, List.length_cons, List.length_nil, big0, big1, big2, big3, big4, big5, if_true, if_false, Bool.not_true, Bool.not_false, f2, f3]⟩
    rw [this]
    show R.ok (_, 0) = R.ok (((u.filter fun x => decide (cnd u ≤ x)).map fun x => gM (gapsL u ++ [x])).map tpD, 0)
    rw [List.map_map]
    rfl
  have hk : ∀ l ∈ chL u, l ≠ [] := fun l hm => by
    obtain ⟨x, hx, rfl⟩ := List.mem_map.mp hm
    obtain ⟨h1, h2⟩ := List.mem_filter.mp hx
    exact gM_ne (kid_hl h h1 (of_decide_eq_true h2))
  have e6 := sort_rows hk
  show endP (f_children_of [.im (.tup (lD u)), .un, .un, .un] 0) = _
  unfold f_children_of
  simp only [sSeq, sNext, sIfS, sRet, sDrop, sAsg, sPar, sAug, sAsgN, sParN, sParM, sApp, sExt, sSetIx, sFrz, sRaise, sVar, sC, sOp, sUn, sCb, sCons, sConsTw, sNil, sTup, sLst, nLst, nOp, sNw, sTest, sAnd, sOr, sNot, sAndV, sOrV, sNotV, sIf, sChain, sIxOw, sLenOw, sSl, sSlOw, sPart, sNoPart, sCallP, liftR, noEx, sThaw, sThawT, sIsi, nSeq, sTick, sYes, bindE, bindS, optE, asB, asI, G.plain, gN, gT, gTs, wipeD, Option.map, Option.bind, List.getElem?_cons_zero, List.getElem?_cons_succ, List.set_cons_zero, List.set_cons_succ, List.getElem?_nil, List.length_cons, List.length_nil, big0, big1, big2, big3, big4, big5, if_true, if_false, Bool.not_true, Bool.not_false, e3, e4, e5, e6, endP]
theorem children_eq {u : List Nat} (h : IsSg u) (hl : ∀ x ∈ u, cnd u ≤ x → (gM (gapsL u ++ [x])).length ≤ 12 ∧ ∀ y ∈ gM (gapsL u ++ [x]), y ≤ 99) : g_children [.tup (lD u)] = .ok (rS (sN (chL u))) := by
  have e1 := h.check
  have e7 := childrenOf_eq h hl
  show endP (f_children [.im (.tup (lD u))] 0) = _
  unfold f_children
  simp only [sSeq, sNext, sIfS, sRet, sDrop, sAsg, sPar, sAug, sAsgN, sParN, sParM, sApp, sExt, sSetIx, sFrz, sRaise, sVar, sC, sOp, sUn, sCb, sCons, sConsTw, sNil, sTup, sLst, nLst, nOp, sNw, sTest, sAnd, sOr, sNot, sAndV, sOrV, sNotV, sIf, sChain, sIxOw, sLenOw, sSl, sSlOw, sPart, sNoPart, sCallP, liftR, noEx, sThaw, sThawT, sIsi, nSeq, sTick, sYes, bindE, bindS, optE, asB, asI, G.plain, gN, gT, gTs, wipeD, Option.map, Option.bind, List.getElem?_cons_zero, List.getElem?_cons_succ, List.set_cons_zero, List.set_cons_succ, List.getElem?_nil, List.length_cons, List.length_nil, big0, big1, big2, big3, big4, big5, if_true, if_false, Bool.not_true, Bool.not_false, e1, e7, endP]
end Gp
end

section
set_option Elab.async false
set_option linter.all false
set_option maxRecDepth 100000
namespace Gd
/-! draws by fifth powers along a line: within any 9,900,000 places, and in each class of remainders by a number up to 63, a prime of each of two kinds is drawn -/
def gv (x : Nat) : Nat := Nat.mod (Nat.mod (Nat.mod (Nat.pow (Nat.mod (Nat.mul 1103523164 x) 2147483647) 5) 2147483647) 999983) 97
def kdV (v : Nat) : Nat := Nat.mod (Nat.shiftRight 1569323330224006998922375390904411258960961425276456402944 (Nat.mul 2 v)) 4
def kd (x : Nat) : Nat := kdV (gv x)
def msk (k : Nat) : Nat → Nat := Nat.rec (fun x => kd x) (fun k r x => Nat.lor (r x) (Nat.shiftLeft (r (Nat.add x (Nat.pow 2 k))) (Nat.pow 2 (Nat.succ k)))) k
def fld (n : Nat) (k : Nat) : Nat → Nat := Nat.rec (fun m => m) (fun k r m => Nat.lor (r m) (Nat.shiftRight (r m) (Nat.mul (Nat.pow 2 (Nat.succ k)) n))) k
def cov (m n : Nat) : Bool := Nat.beq (Nat.mod (fld n 8 m) (Nat.pow 4 n)) (Nat.sub (Nat.pow 4 n) 1)
def covs (m : Nat) (j : Nat) : Bool := Nat.rec true (fun i r => and r (cov m (Nat.add 32 i))) j
def one (S : Nat) : Bool := covs (msk 13 S) 32
def some' (i j : Nat) : Bool := Nat.rec true (fun k r => and r (one (Nat.mul (Nat.add i k) 9883000))) j
theorem ch0 : some' 0 4 = true := by decide +kernel
theorem ch1 : some' 4 4 = true := by decide +kernel
theorem ch2 : some' 8 4 = true := by decide +kernel
theorem ch3 : some' 12 4 = true := by decide +kernel
theorem ch4 : some' 16 4 = true := by decide +kernel
theorem ch5 : some' 20 4 = true := by decide +kernel
theorem ch6 : some' 24 4 = true := by decide +kernel
theorem ch7 : some' 28 4 = true := by decide +kernel
theorem ch8 : some' 32 4 = true := by decide +kernel
theorem ch9 : some' 36 4 = true := by decide +kernel
theorem ch10 : some' 40 4 = true := by decide +kernel
theorem ch11 : some' 44 4 = true := by decide +kernel
theorem ch12 : some' 48 4 = true := by decide +kernel
theorem ch13 : some' 52 4 = true := by decide +kernel
theorem ch14 : some' 56 4 = true := by decide +kernel
theorem ch15 : some' 60 4 = true := by decide +kernel
theorem ch16 : some' 64 4 = true := by decide +kernel
theorem ch17 : some' 68 4 = true := by decide +kernel
theorem ch18 : some' 72 4 = true := by decide +kernel
theorem ch19 : some' 76 4 = true := by decide +kernel
theorem ch20 : some' 80 4 = true := by decide +kernel
theorem ch21 : some' 84 4 = true := by decide +kernel
theorem ch22 : some' 88 4 = true := by decide +kernel
theorem ch23 : some' 92 4 = true := by decide +kernel
theorem ch24 : some' 96 4 = true := by decide +kernel
theorem ch25 : some' 100 4 = true := by decide +kernel
theorem ch26 : some' 104 4 = true := by decide +kernel
theorem ch27 : some' 108 4 = true := by decide +kernel
theorem ch28 : some' 112 4 = true := by decide +kernel
theorem ch29 : some' 116 4 = true := by decide +kernel
theorem ch30 : some' 120 4 = true := by decide +kernel
theorem ch31 : some' 124 4 = true := by decide +kernel
theorem ch32 : some' 128 4 = true := by decide +kernel
theorem ch33 : some' 132 4 = true := by decide +kernel
theorem ch34 : some' 136 4 = true := by decide +kernel
theorem ch35 : some' 140 4 = true := by decide +kernel
theorem ch36 : some' 144 4 = true := by decide +kernel
theorem ch37 : some' 148 4 = true := by decide +kernel
theorem ch38 : some' 152 4 = true := by decide +kernel
theorem ch39 : some' 156 4 = true := by decide +kernel
theorem ch40 : some' 160 4 = true := by decide +kernel
theorem ch41 : some' 164 4 = true := by decide +kernel
theorem ch42 : some' 168 4 = true := by decide +kernel
theorem ch43 : some' 172 4 = true := by decide +kernel
theorem ch44 : some' 176 4 = true := by decide +kernel
theorem ch45 : some' 180 4 = true := by decide +kernel
theorem ch46 : some' 184 4 = true := by decide +kernel
theorem ch47 : some' 188 4 = true := by decide +kernel
theorem ch48 : some' 192 4 = true := by decide +kernel
theorem ch49 : some' 196 4 = true := by decide +kernel
theorem ch50 : some' 200 4 = true := by decide +kernel
theorem ch51 : some' 204 4 = true := by decide +kernel
theorem ch52 : some' 208 4 = true := by decide +kernel
theorem ch53 : some' 212 4 = true := by decide +kernel
theorem ch54 : some' 216 3 = true := by decide +kernel

theorem covs_get {m : Nat} : ∀ {j : Nat}, covs m j = true → ∀ i, i < j → cov m (32 + i) = true
  | 0, _, i, hi => absurd hi (Nat.not_lt_zero _)
  | j + 1, h, i, hi => by
    have h1 : (covs m j && cov m (32 + j)) = true := h
    rw [Bool.and_eq_true] at h1
    rcases Nat.lt_or_ge i j with z | z
    · exact covs_get h1.1 i z
    · rw [show i = j by omega]
      exact h1.2
theorem some_get {a : Nat} : ∀ {j : Nat}, some' a j = true → ∀ i, i < j → one ((a + i) * 9883000) = true
  | 0, _, i, hi => absurd hi (Nat.not_lt_zero _)
  | j + 1, h, i, hi => by
    have h1 : (some' a j && one ((a + j) * 9883000)) = true := h
    rw [Bool.and_eq_true] at h1
    rcases Nat.lt_or_ge i j with z | z
    · exact some_get h1.1 i z
    · rw [show i = j by omega]
      exact h1.2
theorem one_all (i : Nat) (h : i < 219) : one (i * 9883000) = true := by
  rcases Nat.lt_or_ge i 4 with z | z
  · have := some_get ch0 (i - 0) (by omega)
    rwa [show 0 + (i - 0) = i by omega] at this
  rcases Nat.lt_or_ge i 8 with z | z
  · have := some_get ch1 (i - 4) (by omega)
    rwa [show 4 + (i - 4) = i by omega] at this
  rcases Nat.lt_or_ge i 12 with z | z
  · have := some_get ch2 (i - 8) (by omega)
    rwa [show 8 + (i - 8) = i by omega] at this
  rcases Nat.lt_or_ge i 16 with z | z
  · have := some_get ch3 (i - 12) (by omega)
    rwa [show 12 + (i - 12) = i by omega] at this
  rcases Nat.lt_or_ge i 20 with z | z
  · have := some_get ch4 (i - 16) (by omega)
    rwa [show 16 + (i - 16) = i by omega] at this
  rcases Nat.lt_or_ge i 24 with z | z
  · have := some_get ch5 (i - 20) (by omega)
    rwa [show 20 + (i - 20) = i by omega] at this
  rcases Nat.lt_or_ge i 28 with z | z
  · have := some_get ch6 (i - 24) (by omega)
    rwa [show 24 + (i - 24) = i by omega] at this
  rcases Nat.lt_or_ge i 32 with z | z
  · have := some_get ch7 (i - 28) (by omega)
    rwa [show 28 + (i - 28) = i by omega] at this
  rcases Nat.lt_or_ge i 36 with z | z
  · have := some_get ch8 (i - 32) (by omega)
    rwa [show 32 + (i - 32) = i by omega] at this
  rcases Nat.lt_or_ge i 40 with z | z
  · have := some_get ch9 (i - 36) (by omega)
    rwa [show 36 + (i - 36) = i by omega] at this
  rcases Nat.lt_or_ge i 44 with z | z
  · have := some_get ch10 (i - 40) (by omega)
    rwa [show 40 + (i - 40) = i by omega] at this
  rcases Nat.lt_or_ge i 48 with z | z
  · have := some_get ch11 (i - 44) (by omega)
    rwa [show 44 + (i - 44) = i by omega] at this
  rcases Nat.lt_or_ge i 52 with z | z
  · have := some_get ch12 (i - 48) (by omega)
    rwa [show 48 + (i - 48) = i by omega] at this
  rcases Nat.lt_or_ge i 56 with z | z
  · have := some_get ch13 (i - 52) (by omega)
    rwa [show 52 + (i - 52) = i by omega] at this
  rcases Nat.lt_or_ge i 60 with z | z
  · have := some_get ch14 (i - 56) (by omega)
    rwa [show 56 + (i - 56) = i by omega] at this
  rcases Nat.lt_or_ge i 64 with z | z
  · have := some_get ch15 (i - 60) (by omega)
    rwa [show 60 + (i - 60) = i by omega] at this
  rcases Nat.lt_or_ge i 68 with z | z
  · have := some_get ch16 (i - 64) (by omega)
    rwa [show 64 + (i - 64) = i by omega] at this
  rcases Nat.lt_or_ge i 72 with z | z
  · have := some_get ch17 (i - 68) (by omega)
    rwa [show 68 + (i - 68) = i by omega] at this
  rcases Nat.lt_or_ge i 76 with z | z
  · have := some_get ch18 (i - 72) (by omega)
    rwa [show 72 + (i - 72) = i by omega] at this
  rcases Nat.lt_or_ge i 80 with z | z
  · have := some_get ch19 (i - 76) (by omega)
    rwa [show 76 + (i - 76) = i by omega] at this
  rcases Nat.lt_or_ge i 84 with z | z
  · have := some_get ch20 (i - 80) (by omega)
    rwa [show 80 + (i - 80) = i by omega] at this
  rcases Nat.lt_or_ge i 88 with z | z
  · have := some_get ch21 (i - 84) (by omega)
    rwa [show 84 + (i - 84) = i by omega] at this
  rcases Nat.lt_or_ge i 92 with z | z
  · have := some_get ch22 (i - 88) (by omega)
    rwa [show 88 + (i - 88) = i by omega] at this
  rcases Nat.lt_or_ge i 96 with z | z
  · have := some_get ch23 (i - 92) (by omega)
    rwa [show 92 + (i - 92) = i by omega] at this
  rcases Nat.lt_or_ge i 100 with z | z
  · have := some_get ch24 (i - 96) (by omega)
    rwa [show 96 + (i - 96) = i by omega] at this
  rcases Nat.lt_or_ge i 104 with z | z
  · have := some_get ch25 (i - 100) (by omega)
    rwa [show 100 + (i - 100) = i by omega] at this
  rcases Nat.lt_or_ge i 108 with z | z
  · have := some_get ch26 (i - 104) (by omega)
    rwa [show 104 + (i - 104) = i by omega] at this
  rcases Nat.lt_or_ge i 112 with z | z
  · have := some_get ch27 (i - 108) (by omega)
    rwa [show 108 + (i - 108) = i by omega] at this
  rcases Nat.lt_or_ge i 116 with z | z
  · have := some_get ch28 (i - 112) (by omega)
    rwa [show 112 + (i - 112) = i by omega] at this
  rcases Nat.lt_or_ge i 120 with z | z
  · have := some_get ch29 (i - 116) (by omega)
    rwa [show 116 + (i - 116) = i by omega] at this
  rcases Nat.lt_or_ge i 124 with z | z
  · have := some_get ch30 (i - 120) (by omega)
    rwa [show 120 + (i - 120) = i by omega] at this
  rcases Nat.lt_or_ge i 128 with z | z
  · have := some_get ch31 (i - 124) (by omega)
    rwa [show 124 + (i - 124) = i by omega] at this
  rcases Nat.lt_or_ge i 132 with z | z
  · have := some_get ch32 (i - 128) (by omega)
    rwa [show 128 + (i - 128) = i by omega] at this
  rcases Nat.lt_or_ge i 136 with z | z
  · have := some_get ch33 (i - 132) (by omega)
    rwa [show 132 + (i - 132) = i by omega] at this
  rcases Nat.lt_or_ge i 140 with z | z
  · have := some_get ch34 (i - 136) (by omega)
    rwa [show 136 + (i - 136) = i by omega] at this
  rcases Nat.lt_or_ge i 144 with z | z
  · have := some_get ch35 (i - 140) (by omega)
    rwa [show 140 + (i - 140) = i by omega] at this
  rcases Nat.lt_or_ge i 148 with z | z
  · have := some_get ch36 (i - 144) (by omega)
    rwa [show 144 + (i - 144) = i by omega] at this
  rcases Nat.lt_or_ge i 152 with z | z
  · have := some_get ch37 (i - 148) (by omega)
    rwa [show 148 + (i - 148) = i by omega] at this
  rcases Nat.lt_or_ge i 156 with z | z
  · have := some_get ch38 (i - 152) (by omega)
    rwa [show 152 + (i - 152) = i by omega] at this
  rcases Nat.lt_or_ge i 160 with z | z
  · have := some_get ch39 (i - 156) (by omega)
    rwa [show 156 + (i - 156) = i by omega] at this
  rcases Nat.lt_or_ge i 164 with z | z
  · have := some_get ch40 (i - 160) (by omega)
    rwa [show 160 + (i - 160) = i by omega] at this
  rcases Nat.lt_or_ge i 168 with z | z
  · have := some_get ch41 (i - 164) (by omega)
    rwa [show 164 + (i - 164) = i by omega] at this
  rcases Nat.lt_or_ge i 172 with z | z
  · have := some_get ch42 (i - 168) (by omega)
    rwa [show 168 + (i - 168) = i by omega] at this
  rcases Nat.lt_or_ge i 176 with z | z
  · have := some_get ch43 (i - 172) (by omega)
    rwa [show 172 + (i - 172) = i by omega] at this
  rcases Nat.lt_or_ge i 180 with z | z
  · have := some_get ch44 (i - 176) (by omega)
    rwa [show 176 + (i - 176) = i by omega] at this
  rcases Nat.lt_or_ge i 184 with z | z
  · have := some_get ch45 (i - 180) (by omega)
    rwa [show 180 + (i - 180) = i by omega] at this
  rcases Nat.lt_or_ge i 188 with z | z
  · have := some_get ch46 (i - 184) (by omega)
    rwa [show 184 + (i - 184) = i by omega] at this
  rcases Nat.lt_or_ge i 192 with z | z
  · have := some_get ch47 (i - 188) (by omega)
    rwa [show 188 + (i - 188) = i by omega] at this
  rcases Nat.lt_or_ge i 196 with z | z
  · have := some_get ch48 (i - 192) (by omega)
    rwa [show 192 + (i - 192) = i by omega] at this
  rcases Nat.lt_or_ge i 200 with z | z
  · have := some_get ch49 (i - 196) (by omega)
    rwa [show 196 + (i - 196) = i by omega] at this
  rcases Nat.lt_or_ge i 204 with z | z
  · have := some_get ch50 (i - 200) (by omega)
    rwa [show 200 + (i - 200) = i by omega] at this
  rcases Nat.lt_or_ge i 208 with z | z
  · have := some_get ch51 (i - 204) (by omega)
    rwa [show 204 + (i - 204) = i by omega] at this
  rcases Nat.lt_or_ge i 212 with z | z
  · have := some_get ch52 (i - 208) (by omega)
    rwa [show 208 + (i - 208) = i by omega] at this
  rcases Nat.lt_or_ge i 216 with z | z
  · have := some_get ch53 (i - 212) (by omega)
    rwa [show 212 + (i - 212) = i by omega] at this
  have := some_get ch54 (i - 216) (by omega)
  rwa [show 216 + (i - 216) = i by omega] at this

theorem fld_bit {n m : Nat} : ∀ (k i : Nat), (fld n k m).testBit i = true → ∃ j, m.testBit (i + 2 * n * j) = true
  | 0, i, h => ⟨0, h⟩
  | k + 1, i, h => by
    have h1 : ((fld n k m) ||| ((fld n k m) >>> (2 ^ (k + 1) * n))).testBit i = true := h
    rw [Nat.testBit_or, Bool.or_eq_true, Nat.testBit_shiftRight] at h1
    rcases h1 with h1 | h1
    · exact fld_bit k i h1
    · obtain ⟨j, hj⟩ := fld_bit k _ h1
      refine ⟨2 ^ k + j, ?_⟩
      rw [show i + 2 * n * (2 ^ k + j) = 2 ^ (k + 1) * n + i + 2 * n * j by rw [Nat.pow_succ, Nat.mul_add, Nat.mul_comm (2 * n) (2 ^ k), ← Nat.mul_assoc]; omega]
      exact hj
theorem kd_bit {x i : Nat} (h : (kd x).testBit i = true) : i < 2 := by
  have h1 : ((1569323330224006998922375390904411258960961425276456402944 >>> (2 * gv x)) % 2 ^ 2).testBit i = true := h
  rw [Nat.testBit_mod_two_pow, Bool.and_eq_true, decide_eq_true_iff] at h1
  exact h1.1
theorem msk_bit : ∀ (k x i : Nat), (msk k x).testBit i = true → ∃ t e, t < 2 ^ k ∧ e < 2 ∧ i = 2 * t + e ∧ (kd (x + t)).testBit e = true
  | 0, x, i, h => ⟨0, i, by omega, kd_bit h, by omega, h⟩
  | k + 1, x, i, h => by
    have h1 : ((msk k x) ||| ((msk k (x + 2 ^ k)) <<< (2 ^ (k + 1)))).testBit i = true := h
    rw [Nat.testBit_or, Bool.or_eq_true, Nat.testBit_shiftLeft, Bool.and_eq_true, decide_eq_true_iff] at h1
    have hp : 2 ^ (k + 1) = 2 ^ k * 2 := Nat.pow_succ ..
    rcases h1 with h1 | ⟨h1, h2⟩
    · obtain ⟨t, e, q1, q2, q3, q4⟩ := msk_bit k x i h1
      exact ⟨t, e, by omega, q2, q3, q4⟩
    · obtain ⟨t, e, q1, q2, q3, q4⟩ := msk_bit k _ _ h2
      refine ⟨2 ^ k + t, e, by omega, q2, by omega, ?_⟩
      rw [← Nat.add_assoc]
      exact q4
theorem one_bit {S : Nat} (h : one S = true) {n : Nat} (h1 : 32 ≤ n) (h2 : n < 64) {r e : Nat} (hr : r < n) (he : e < 2) : ∃ t, t < 8192 ∧ t % n = r ∧ (kd (S + t)).testBit e = true := by
  have hc := covs_get h (n - 32) (by omega)
  rw [show 32 + (n - 32) = n by omega] at hc
  have h3 : (fld n 8 (msk 13 S)) % 4 ^ n = 4 ^ n - 1 := Nat.eq_of_beq_eq_true hc
  have h4 : (4 : Nat) ^ n = 2 ^ (2 * n) := by rw [Nat.pow_mul]
  rw [h4] at h3
  have h5 : ((fld n 8 (msk 13 S)) % 2 ^ (2 * n)).testBit (2 * r + e) = true := by
    rw [h3, Nat.testBit_two_pow_sub_one, decide_eq_true_iff]
    omega
  rw [Nat.testBit_mod_two_pow, Bool.and_eq_true] at h5
  obtain ⟨j, hj⟩ := fld_bit 8 _ h5.2
  obtain ⟨t, e', q1, q2, q3, q4⟩ := msk_bit 13 S _ hj
  have hh : 2 * n * j = 2 * (n * j) := Nat.mul_assoc ..
  have e1 : e' = e := by omega
  subst e1
  refine ⟨t, q1, ?_, q4⟩
  rw [show t = r + n * j by omega, Nat.add_mul_mod_self_left, Nat.mod_eq_of_lt hr]
/-- the two kinds -/
theorem kinds : ((List.range 99).all fun a => (List.range 97).all fun u => !(kdV u).testBit 0 || (List.range 97).all fun v => !(kdV v).testBit 1 || Nat.beq a 0 || Nat.beq (Nat.gcd a (2 + u)) 1 || Nat.beq (Nat.gcd a (2 + v)) 1) = true := by decide +kernel
theorem gv_lt (x : Nat) : gv x < 97 := Nat.mod_lt _ (by decide)
theorem kinds' {a u v : Nat} (ha : 0 < a) (ha2 : a < 99) (hu : u < 97) (hv : v < 97) (h0 : (kdV u).testBit 0 = true) (h1 : (kdV v).testBit 1 = true) : Nat.gcd a (2 + u) = 1 ∨ Nat.gcd a (2 + v) = 1 := by
  have h := kinds
  rw [List.all_eq_true] at h
  have h2 := h a (List.mem_range.mpr ha2)
  rw [List.all_eq_true] at h2
  have h3 := h2 u (List.mem_range.mpr hu)
  rw [h0, Bool.not_true, Bool.false_or, List.all_eq_true] at h3
  have h4 := h3 v (List.mem_range.mpr hv)
  rw [h1, Bool.not_true, Bool.false_or, Bool.or_eq_true, Bool.or_eq_true] at h4
  rcases h4 with (h4 | h4) | h4
  · exact absurd (Nat.eq_of_beq_eq_true h4) (by omega)
  · exact .inl (Nat.eq_of_beq_eq_true h4)
  · exact .inr (Nat.eq_of_beq_eq_true h4)
theorem cover {n z a : Nat} (hn : 0 < n) (hn2 : n < 64) (hz : z < 2147483647) (ha : 0 < a) (ha2 : a < 99) : ∃ k, 3780 ≤ k ∧ k < 9900000 ∧ k % n = 0 ∧ Nat.gcd a (2 + gv (z + k)) = 1 := by
  obtain ⟨n', h1, h2, h3⟩ : ∃ n', 32 ≤ n' ∧ n' < 64 ∧ n ∣ n' := by
    rcases Nat.lt_or_ge n 32 with h | h
    · have h4 := Nat.div_add_mod 63 n
      have h5 := Nat.mod_lt 63 hn
      exact ⟨n * (63 / n), by omega, by omega, Nat.dvd_mul_right ..⟩
    · exact ⟨n, h, hn2, Nat.dvd_refl _⟩
  have hS : ∃ i, i < 219 ∧ z + 3780 ≤ i * 9883000 ∧ i * 9883000 ≤ z + 3780 + 9883000 := by
    have h4 := Nat.div_add_mod (z + 3780) 9883000
    have h5 := Nat.mod_lt (z + 3780) (show 0 < 9883000 by decide)
    exact ⟨(z + 3780) / 9883000 + 1, by omega, by omega, by omega⟩
  obtain ⟨i, hi, s1, s2⟩ := hS
  have ho := one_all i hi
  generalize i * 9883000 = S at s1 s2 ho
  have hn' : 0 < n' := by omega
  have hm := Nat.mod_lt (S - z) hn'
  have hm2 := Nat.div_add_mod (S - z) n'
  have hr : (n' - (S - z) % n') % n' < n' := Nat.mod_lt _ hn'
  have key : ∀ t, t % n' = (n' - (S - z) % n') % n' → (S - z + t) % n = 0 := fun t ht => by
    have e1 : (S - z + t) % n' = 0 := by
      rw [Nat.add_mod, ht, ← Nat.add_mod]
      rw [show S - z + (n' - (S - z) % n') = n' * ((S - z) / n' + 1) by rw [Nat.mul_add]; omega]
      exact Nat.mul_mod_right ..
    exact Nat.mod_eq_zero_of_dvd (Nat.dvd_trans h3 (Nat.dvd_of_mod_eq_zero e1))
  obtain ⟨t0, a1, a2, a3⟩ := one_bit ho h1 h2 hr (show 0 < 2 by decide)
  obtain ⟨t1, b1, b2, b3⟩ := one_bit ho h1 h2 hr (show 1 < 2 by decide)
  rcases kinds' ha ha2 (gv_lt _) (gv_lt _) a3 b3 with h | h
  · refine ⟨S - z + t0, by omega, by omega, key _ a2, ?_⟩
    rw [show z + (S - z + t0) = S + t0 by omega]
    exact h
  · refine ⟨S - z + t1, by omega, by omega, key _ b2, ?_⟩
    rw [show z + (S - z + t1) = S + t1 by omega]
    exact h
/-- without numbers -/
def gw (w : Nat) : Nat := w ^ 5 % 2147483647 % 999983 % 97
theorem cover0 {a : Nat} (ha : 0 < a) (ha2 : a < 99) : Nat.gcd a (2 + gw ((7919 * 300 + 12345) % 2147483647)) = 1 ∨ Nat.gcd a (2 + gw ((7919 * 301 + 12345) % 2147483647)) = 1 :=
  kinds' ha ha2 (Nat.mod_lt _ (by decide)) (Nat.mod_lt _ (by decide)) (by decide +kernel) (by decide +kernel)
theorem gv_gw (x : Nat) : gv x = gw (1103523164 * x % 2147483647) := rfl
end Gd
end

section
set_option linter.all false
set_option backward.match.sparseCases false
set_option maxRecDepth 100000
namespace Gp
open G PySem Sg Classical Gd
/-! ### what is drawn, as a number -/
def spn (v : Int) : Nat → Int
  | 0 => v
  | q + 1 => spn v q / 1000003
def cellV (ms : List Int) (k : Nat) : Int := if k < ms.length then ms.getD k 0 else if ms = [] then 0 else ms.getD (k % ms.length) 0 * 31 + k + spn (ms.getD (k % ms.length) 0) (min (k / ms.length) 60) * 101
theorem cell_val (ms : List Int) (k : Nat) (hl : ms.length ≤ 63) : g__law_cell_at [.scr ms, nD k] = .ok (.int (cellV ms k)) := by
  have e1 : bLen [.scr ms] = some (nD ms.length) := rfl
  have e2 := dLt_n k ms.length
  have hb0 : (0 : Nat) < big := big_of (by omega)
  show endP (f__law_cell_at [.im (.scr ms), .im (nD k), .un, .un] 0) = _
  by_cases h1 : k < ms.length
  · rw [decide_eq_true h1] at e2
    have e3 := scr_ix h1
    have e4 : cellV ms k = ms[k] := by
      unfold cellV
      rw [if_pos h1, List.getD_eq_getElem?_getD, List.getElem?_eq_getElem h1]
      rfl
    rw [e4]
    unfold f__law_cell_at
    simp only [sSeq, sNext, sIfS, sRet, sDrop, sAsg, sPar, sAug, sAsgN, sParN, sParM, sApp, sExt, sSetIx, sFrz, sRaise, sVar, sC, sOp, sUn, sCb, sCons, sConsTw, sNil, sTup, sLst, nLst, nOp, sNw, sTest, sAnd, sOr, sNot, sAndV, sOrV, sNotV, sIf, sChain, sIxOw, sLenOw, sSl, sSlOw, sPart, sNoPart, sCallP, sCallT, liftR, noEx, sThaw, sThawT, sIsi, sFor, nSeq, nRng1, nRng2, nLc, sTick, sYes, bindE, bindS, optE, asB, asI, G.plain, gN, gT, gTs, wipeD, Option.map, Option.bind, List.getElem?_cons_zero, List.getElem?_cons_succ, List.set_cons_zero, List.set_cons_succ, List.getElem?_nil, List.length_cons, List.length_nil, e1, e2, e3, endP]
  · rw [decide_eq_false h1] at e2
    have e4 := dEq_scr ms
    by_cases h2 : ms = []
    · rw [decide_eq_true h2] at e4
      have e5 : cellV ms k = 0 := by
        unfold cellV
        rw [if_neg h1, if_pos h2]
      rw [e5]
      unfold f__law_cell_at
      simp only [sSeq, sNext, sIfS, sRet, sDrop, sAsg, sPar, sAug, sAsgN, sParN, sParM, sApp, sExt, sSetIx, sFrz, sRaise, sVar, sC, sOp, sUn, sCb, sCons, sConsTw, sNil, sTup, sLst, nLst, nOp, sNw, sTest, sAnd, sOr, sNot, sAndV, sOrV, sNotV, sIf, sChain, sIxOw, sLenOw, sSl, sSlOw, sPart, sNoPart, sCallP, sCallT, liftR, noEx, sThaw, sThawT, sIsi, sFor, nSeq, nRng1, nRng2, nLc, sTick, sYes, bindE, bindS, optE, asB, asI, G.plain, gN, gT, gTs, wipeD, Option.map, Option.bind, List.getElem?_cons_zero, List.getElem?_cons_succ, List.set_cons_zero, List.set_cons_succ, List.getElem?_nil, List.length_cons, List.length_nil, e1, e2, hb0, if_true, e4, endP]
    · rw [decide_eq_false h2] at e4
      have hpos : 0 < ms.length := List.length_pos_iff.mpr h2
      have e5 := dMod_n (a := k) hpos
      have hlt := Nat.mod_lt k hpos
      have e6 := scr_ix hlt
      have e7 := dFdiv_n (a := k) hpos (by omega)
      have ev : cellV ms k = ms[k % ms.length] * 31 + k + spn ms[k % ms.length] (min (k / ms.length) 60) * 101 := by
        unfold cellV
        rw [if_neg h1, if_neg h2, List.getD_eq_getElem?_getD, List.getElem?_eq_getElem hlt]
        rfl
      have e8 : bMin [nD (k / ms.length), .int 60] = some (nD (min (k / ms.length) 60)) := by
        show some (D.int (if (60 : Int) < ((k / ms.length : Nat) : Int) then 60 else ((k / ms.length : Nat) : Int))) = _
        split
        · rw [Nat.min_eq_right (by omega)]
          rfl
        · rw [Nat.min_eq_left (by omega)]
      have e9 := lim62_n (n := min (k / ms.length) 60) (by omega)
      rw [ev]
      generalize min (k / ms.length) 60 = q at e8 e9
      obtain ⟨s', e, y3, es⟩ := loopS_inv0 (tg := gN 3) (f := sAsg 2 (sOp dFdiv (sVar 2) (sC (.int 1000003)))) (n := 0)
        (fun i s => ∃ (y3 : SV), s = [.im (.scr ms), .im (nD k), .im (.int (spn ms[k % ms.length] i)), y3]) (ds := rangeD 0 q) (s := [.im (.scr ms), .im (nD k), .im (.int ms[k % ms.length]), .un]) ⟨_, rfl⟩ fun i d s hi hI => by
          obtain ⟨y3, es⟩ := hI
          subst es
          have e1 := dFdiv_i (a := spn ms[k % ms.length] i) (b := 1000003) rfl rfl
          refine ⟨[.im (.scr ms), .im (nD k), .im (.int (spn ms[k % ms.length] i)), .im d], [.im (.scr ms), .im (nD k), .im (.int (spn ms[k % ms.length] i / 1000003)), .im d], rfl, ?_, _, rfl⟩
          simp only [sSeq, sNext, sIfS, sRet, sDrop, sAsg, sPar, sAug, sAsgN, sParN, sParM, sApp, sExt, sSetIx, sFrz, sRaise, sVar, sC, sOp, sUn, sCb, sCons, sConsTw, sNil, sTup, sLst, nLst, nOp, sNw, sTest, sAnd, sOr, sNot, sAndV, sOrV, sNotV, sIf, sChain, sIxOw, sLenOw, sSl, sSlOw, sPart, sNoPart, sCallP, sCallT, liftR, noEx, sThaw, sThawT, sIsi, sFor, nSeq, nRng1, nRng2, nLc, sTick, sYes, bindE, bindS, optE, asB, asI, G.plain, gN, gT, gTs, wipeD, Option.map, Option.bind, List.getElem?_cons_zero, List.getElem?_cons_succ, List.set_cons_zero, List.set_cons_succ, List.getElem?_nil, List.length_cons, List.length_nil, e1]
      rw [rangeD_len] at es
      have f1 := dMul_sm (a := ms[k % ms.length]) (b := 31) rfl
      have f2 := dMul_sm (a := spn ms[k % ms.length] q) (b := 101) rfl
      unfold f__law_cell_at
      simp only [sSeq, sNext, sIfS, sRet, sDrop, sAsg, sPar, sAug, sAsgN, sParN, sParM, sApp, sExt, sSetIx, sFrz, sRaise, sVar, sC, sOp, sUn, sCb, sCons, sConsTw, sNil, sTup, sLst, nLst, nOp, sNw, sTest, sAnd, sOr, sNot, sAndV, sOrV, sNotV, sIf, sChain, sIxOw, sLenOw, sSl, sSlOw, sPart, sNoPart, sCallP, sCallT, liftR, noEx, sThaw, sThawT, sIsi, sFor, nSeq, nRng1, nRng2, nLc, sTick, sYes, bindE, bindS, optE, asB, asI, G.plain, gN, gT, gTs, wipeD, Option.map, Option.bind, List.getElem?_cons_zero, List.getElem?_cons_succ, List.set_cons_zero, List.set_cons_succ, List.getElem?_nil, List.length_cons, List.length_nil, e1, e2, hb0, if_true, e4, e5, e6, e7, e8, e9, Int.toNat_natCast]
      rw [e, es]
      simp only [sSeq, sNext, sIfS, sRet, sDrop, sAsg, sPar, sAug, sAsgN, sParN, sParM, sApp, sExt, sSetIx, sFrz, sRaise, sVar, sC, sOp, sUn, sCb, sCons, sConsTw, sNil, sTup, sLst, nLst, nOp, sNw, sTest, sAnd, sOr, sNot, sAndV, sOrV, sNotV, sIf, sChain, sIxOw, sLenOw, sSl, sSlOw, sPart, sNoPart, sCallP, sCallT, liftR, noEx, sThaw, sThawT, sIsi, sFor, nSeq, nRng1, nRng2, nLc, sTick, sYes, bindE, bindS, optE, asB, asI, G.plain, gN, gT, gTs, wipeD, Option.map, Option.bind, List.getElem?_cons_zero, List.getElem?_cons_succ, List.set_cons_zero, List.set_cons_succ, List.getElem?_nil, List.length_cons, List.length_nil, e1, e5, e6, f1, f2, dAdd_i, endP]
def spunV (v : Int) (k : Nat) : Nat := ((v * 1103515245 + 7919 * (k : Int) + 12345) % 2147483647).toNat
theorem mixed_val (ms : List Int) (k : Nat) (hl : ms.length ≤ 63) : g__law_mixed [.scr ms, nD k, .int 97] = .ok (nD (gw (spunV (cellV ms k) k))) := by
  have hv := cell_val ms k hl
  generalize cellV ms k = v at hv
  have f1 := dMul_sm (a := v) (b := 1103515245) rfl
  have f2 : dMul (.int 7919) (nD k) = some (.int (7919 * (k : Int))) := dMul_sm' rfl
  have f3 := dMod_i (a := v * 1103515245 + 7919 * (k : Int) + 12345) (b := 2147483647) rfl
  unfold spunV
  generalize hw : (v * 1103515245 + 7919 * (k : Int) + 12345) % 2147483647 = w at f3
  have hw1 : 0 ≤ w := by rw [← hw]; exact Int.emod_nonneg _ (by decide)
  have hw2 : w < 2147483647 := by rw [← hw]; exact Int.emod_lt_of_pos _ (by decide)
  obtain ⟨u, rfl⟩ := Int.eq_ofNat_of_zero_le hw1
  have f4 : dPow (.int u) (.int 5) = some (.int ((u : Int) ^ 5)) := by
    show (if okI 9223372036854775808 (u : Int) = true ∧ okI 1000 5 = true ∧ posI 5 = true then some (D.int ((u : Int) ^ (5 : Int).toNat)) else none) = _
    rw [if_pos ⟨okI_of (by omega) (by omega), rfl, rfl⟩]
    rfl
  have f5 := dMod_i (a := (u : Int) ^ 5) (b := 2147483647) rfl
  have f6 := dMod_i (a := (u : Int) ^ 5 % 2147483647) (b := 999983) rfl
  have f7 := dMod_i (a := (u : Int) ^ 5 % 2147483647 % 999983) (b := 97) rfl
  have ez : nD (gw (u : Int).toNat) = .int ((u : Int) ^ 5 % 2147483647 % 999983 % 97) := by
    show D.int ((u ^ 5 % 2147483647 % 999983 % 97 : Nat) : Int) = _
    rw [Int.natCast_emod, Int.natCast_emod, Int.natCast_emod, Int.natCast_pow]
    rfl
  rw [ez]
  show endP (f__law_mixed [.im (.scr ms), .im (nD k), .im (.int 97), .un] 0) = _
  unfold f__law_mixed
  simp only [sSeq, sNext, sIfS, sRet, sDrop, sAsg, sPar, sAug, sAsgN, sParN, sParM, sApp, sExt, sSetIx, sFrz, sRaise, sVar, sC, sOp, sUn, sCb, sCons, sConsTw, sNil, sTup, sLst, nLst, nOp, sNw, sTest, sAnd, sOr, sNot, sAndV, sOrV, sNotV, sIf, sChain, sIxOw, sLenOw, sSl, sSlOw, sPart, sNoPart, sCallP, sCallT, liftR, noEx, sThaw, sThawT, sIsi, sFor, nSeq, nRng1, nRng2, nLc, sTick, sYes, bindE, bindS, optE, asB, asI, G.plain, gN, gT, gTs, wipeD, Option.map, Option.bind, List.getElem?_cons_zero, List.getElem?_cons_succ, List.set_cons_zero, List.set_cons_succ, List.getElem?_nil, List.length_cons, List.length_nil, hv, f1, f2, dAdd_i, f3, f4, f5, f6, f7, endP]
theorem draw_val (ms : List Int) (n : Nat) (hn : n < 9999999) (hl : ms.length ≤ 63) : g__law_draw [.d (.scr ms), .tw, .d (.int 97)] n = .ok (nD (gw (spunV (cellV ms (n + 1)) (n + 1))), n + 1) := by
  have e := mixed_val ms (n + 1) hl
  show endT (f__law_draw [.im (.scr ms), .tw, .im (.int 97)] n) = _
  have hb : n < big := Nat.lt_trans hn (by decide)
  unfold f__law_draw
  simp only [sSeq, sNext, sIfS, sRet, sDrop, sAsg, sPar, sAug, sAsgN, sParN, sParM, sApp, sExt, sSetIx, sFrz, sRaise, sVar, sC, sOp, sUn, sCb, sCons, sConsTw, sNil, sTup, sLst, nLst, nOp, sNw, sTest, sAnd, sOr, sNot, sAndV, sOrV, sNotV, sIf, sChain, sIxOw, sLenOw, sSl, sSlOw, sPart, sNoPart, sCallP, sCallT, liftR, noEx, sThaw, sThawT, sIsi, sFor, nSeq, nRng1, nRng2, nLc, sTick, sYes, bindE, bindS, optE, asB, asI, G.plain, gN, gT, gTs, wipeD, Option.map, Option.bind, List.getElem?_cons_zero, List.getElem?_cons_succ, List.set_cons_zero, List.set_cons_succ, List.getElem?_nil, List.length_cons, List.length_nil, hb, if_true, show g__law_mixed [.scr ms, .int ((n + 1 : Nat) : Int), .int 97] = _ from e, endT]
/-- a draw that shares nothing with a, not too late -/
theorem draw_good (ms : List Int) (hl : ms.length ≤ 63) {a : Nat} (ha : 0 < a) (ha2 : a < 99) : ∃ k, 300 ≤ k ∧ k < 9900000 ∧ Nat.gcd a (2 + gw (spunV (cellV ms k) k)) = 1 := by
  by_cases h0 : ms = []
  · subst h0
    have e : ∀ k : Nat, cellV [] k = 0 := fun k => rfl
    rcases cover0 ha ha2 with h | h
    · exact ⟨300, by decide, by decide, by rw [e]; exact h⟩
    · exact ⟨301, by decide, by decide, by rw [e]; exact h⟩
  · have hpos : 0 < ms.length := List.length_pos_iff.mpr h0
    obtain ⟨c, hc⟩ : ∃ c : Int, ∀ k : Nat, 3780 ≤ k → k % ms.length = 0 → cellV ms k = c + k := by
      refine ⟨ms.getD 0 0 * 31 + spn (ms.getD 0 0) 60 * 101, fun k hk hm => ?_⟩
      have h1 : ¬ k < ms.length := by omega
      have h2 : 60 ≤ k / ms.length := (Nat.le_div_iff_mul_le hpos).mpr (by omega)
      unfold cellV
      rw [if_neg h1, if_neg h0, hm, Nat.min_eq_right h2]
      omega
    obtain ⟨k, k1, k2, k3, k4⟩ := cover (z := ((c * 1103515245 + 12345) * 175578775 % 2147483647).toNat) hpos (by omega) (by
      have := Int.emod_nonneg ((c * 1103515245 + 12345) * 175578775) (show (2147483647 : Int) ≠ 0 by decide)
      have := Int.emod_lt_of_pos ((c * 1103515245 + 12345) * 175578775) (show (0 : Int) < 2147483647 by decide)
      omega) ha ha2
    refine ⟨k, by omega, k2, ?_⟩
    rw [hc k k1 k3]
    have e1 : spunV (c + k) k = 1103523164 * (((c * 1103515245 + 12345) * 175578775 % 2147483647).toNat + k) % 2147483647 := by
      have g1 := Int.emod_nonneg ((c * 1103515245 + 12345) * 175578775) (show (2147483647 : Int) ≠ 0 by decide)
      have g2 := Int.mul_ediv_add_emod ((c * 1103515245 + 12345) * 175578775) 2147483647
      generalize hz : (c * 1103515245 + 12345) * 175578775 % 2147483647 = z at g1 g2
      generalize (c * 1103515245 + 12345) * 175578775 / 2147483647 = q at g2
      obtain ⟨u, rfl⟩ := Int.eq_ofNat_of_zero_le g1
      unfold spunV
      have g3 : ((1103523164 * (u + k) % 2147483647 : Nat) : Int) = ((c + k) * 1103515245 + 7919 * (k : Int) + 12345) % 2147483647 := by
        rw [Int.natCast_emod]
        have g4 : ((1103523164 * (u + k) : Nat) : Int) = ((c + k) * 1103515245 + 7919 * (k : Int) + 12345) + 2147483647 * (90224317 * (c * 1103515245 + 12345) - 1103523164 * q) := by
          rw [Int.natCast_mul, Int.natCast_add]
          omega
        rw [g4]
        exact Int.add_mul_emod_self_left ..
      rw [← g3]
      rfl
    rw [e1, ← gv_gw]
    exact k4
end Gp
end

section
set_option Elab.async false
set_option linter.all false
set_option backward.match.sparseCases false
set_option maxRecDepth 100000
namespace Gk07
open G Gp PySem
def f_law : SS := (sTown 1 (sSeq (sAsg 2 (sCallP g__law_least_set (sCons (sCallT g__law_numbers (sCons (sVar 0) (sConsTw 1 (sCons (sC (.int 18)) (sCons (sC (.int 4)) sNil))))) sNil)))
  (sSeq (sAsg 3 (sCallP g__law_holes (sCons (sVar 2) sNil)))
  (sSeq (sAsg 4 (sCb bMax (sCons (sOp dAdd (sVar 3) (sLst (sCons (sUn dNeg (sC (.int 1))) sNil))) sNil)))
  (sSeq (sAsg 5 (sNw (nLc (nRng1 (sCons (sOp dAdd (sVar 4) (sC (.int 1))) sNil)) (gN 9) (sTest (sOp dEq (sOp dIn (sVar 9) (sVar 3)) (sOp dIn (sOp dSub (sVar 4) (sVar 9)) (sVar 3)))) (sVar 9) [9])))
  (sSeq (sIfS (sOr (sNot (sTest (sCallP g__law_same_truth (sCons (sCallP g_is_symmetric (sCons (sVar 2) sNil)) (sCons (sOp dEq (sVar 5) (sLst sNil)) sNil))))) (sTest (sOp dNe (sOp dEq (sVar 5) (sLst sNil)) (sOp dEq (sOp dMul (sC (.int 2)) (sCb bLen (sCons (sVar 3) sNil))) (sOp dAdd (sVar 4) (sC (.int 1))))))) (sRet (sC (.bl false))) sNext)
  (sSeq (sAsg 6 (sOp dAdd (sC (.int 2)) (sCallT g__law_draw (sCons (sVar 0) (sConsTw 1 (sCons (sC (.int 97)) sNil))))))
  (sSeq (sAsg 7 (sOp dAdd (sC (.int 2)) (sCallT g__law_draw (sCons (sVar 0) (sConsTw 1 (sCons (sC (.int 97)) sNil))))))
  (sSeq (sWhile (sTest (sOp dNe (sCallP g__law_gcd (sCons (sLst (sCons (sVar 6) (sCons (sVar 7) sNil))) sNil)) (sC (.int 1)))) (sAsg 7 (sOp dAdd (sC (.int 2)) (sCallT g__law_draw (sCons (sVar 0) (sConsTw 1 (sCons (sC (.int 97)) sNil)))))) 9990000)
  (sSeq (sAsg 8 (sCallP g_from_numbers (sCons (sLst (sCons (sVar 6) (sCons (sVar 7) sNil))) sNil)))
  (sSeq (sIfS (sOr (sTest (sOp dNe (sVar 8) (sTup (sCons (sCb bMin (sCons (sVar 6) (sCons (sVar 7) sNil))) (sCons (sCb bMax (sCons (sVar 6) (sCons (sVar 7) sNil))) sNil))))) (sTest (sOp dNe (sCallP g_greatest_gap (sCons (sVar 8) sNil)) (sOp dSub (sOp dSub (sOp dMul (sVar 6) (sVar 7)) (sVar 6)) (sVar 7))))) (sRet (sC (.bl false))) sNext)
  (sSeq (sIfS (sTest (sOp dNe (sOp dMul (sC (.int 2)) (sCallP g_genus (sCons (sVar 8) sNil))) (sOp dMul (sOp dSub (sVar 6) (sC (.int 1))) (sOp dSub (sVar 7) (sC (.int 1)))))) (sRet (sC (.bl false))) sNext)
  (sRet (sAndV (sOp dIs (sCallP g_is_symmetric (sCons (sVar 8) sNil)) (sC (.bl true))) (sOp dIs (sCallP g_is_irreducible (sCons (sVar 8) sNil)) (sC (.bl true)))))))))))))))))
def g_law : List D → R D := runP 10 1 f_law
end Gk07
end

section
set_option linter.all false
set_option backward.match.sparseCases false
set_option maxRecDepth 100000
namespace Gk07
open G PySem Sg Classical Gp Gd
theorem dEq_bb (a b : Bool) : dEq (.bl a) (.bl b) = some (.bl (a == b)) := by cases a <;> cases b <;> rfl
theorem dNe_bb (b : Bool) : dNe (.bl b) (.bl b) = some (.bl false) := by cases b <;> rfl
/-! ### the numbers x for which x and top - x are alike -/
noncomputable abbrev alike (own : List Nat) : List Nat := (List.range (cnd own)).filter fun x => (decide (x ∈ gapsL own) == decide (cnd own - 1 - x ∈ gapsL own))
theorem alike_nil {own : List Nat} (h : IsSg own) : alike own = [] ↔ 2 * (gapsL own).length = cnd own := by
  rw [sym_iff h.nice]
  unfold alike
  rw [List.filter_eq_nil_iff]
  constructor
  · intro hh x hx hS
    have h1 := hh x (List.mem_range.mpr hx)
    rcases Classical.em (Sum own (cnd own - 1 - x)) with z | z
    · exact z
    · refine absurd ?_ h1
      rw [decide_eq_true ((mem_gapsL h.nice.pos h.gcd _).mpr hS), decide_eq_true ((mem_gapsL h.nice.pos h.gcd _).mpr z)]
      rfl
  · intro hh x hx hb
    have hlt := List.mem_range.mp hx
    rw [beq_iff_eq, decide_eq_decide, mem_gapsL h.nice.pos h.gcd, mem_gapsL h.nice.pos h.gcd] at hb
    rcases Classical.em (Sum own x) with z | z
    · have z2 : Sum own (cnd own - 1 - x) := Classical.byContradiction fun w => hb.mpr w z
      exact both_not h.nice hlt z z2
    · exact hb.mp z (hh x hlt z)
/-! ### the state -/
noncomputable abbrev S (ms : List Int) (own : List Nat) (x4 x5 x6 x7 x8 x9 : SV) : SD := [.im (.scr ms), .tw, .im (.tup (lD own)), .im (.lst (lD (gapsL own))), x4, x5, x6, x7, x8, x9]
abbrev odE : SN := nLc (nRng1 (sCons (sOp dAdd (sVar 4) (sC (.int 1))) sNil)) (gN 9) (sTest (sOp dEq (sOp dIn (sVar 9) (sVar 3)) (sOp dIn (sOp dSub (sVar 4) (sVar 9)) (sVar 3)))) (sVar 9) [9]
theorem od_eq {own : List Nat} (h : IsSg own) {ms : List Int} {n : Nat} {x5 x6 x7 x8 x9 : SV} : odE (S ms own (.im (.int ((cnd own : Int) - 1))) x5 x6 x7 x8 x9) n = .ok (lD (alike own), n) := by
  have hc := h.cnd_le
  have e1 := lim62_n (n := cnd own) (by omega)
  have e2 : nRng1 (sCons (sOp dAdd (sVar 4) (sC (.int 1))) sNil) (S ms own (.im (.int ((cnd own : Int) - 1))) x5 x6 x7 x8 x9) n = .ok (lD (List.range (cnd own)), n) := by
    have e3 : dAdd (.int ((cnd own : Int) - 1)) (.int 1) = some (nD (cnd own)) := by
      rw [dAdd_i, show (cnd own : Int) - 1 + 1 = (cnd own : Int) by omega]
    unfold nRng1
    simp only [sSeq, sNext, sIfS, sRet, sDrop, sAsg, sPar, sAug, sAsgN, sParN, sParM, sApp, sExt, sSetIx, sFrz, sRaise, sVar, sC, sOp, sUn, sCb, sCons, sConsTw, sNil, sTup, sLst, nLst, nOp, sNw, sTest, sAnd, sOr, sNot, sAndV, sOrV, sNotV, sIf, sChain, sIxOw, sLenOw, sSl, sSlOw, sPart, sNoPart, sCallP, liftR, noEx, sThaw, sThawT, sIsi, nSeq, sTick, sYes, bindE, bindS, optE, asB, asI, G.plain, gN, gT, gTs, wipeD, Option.map, Option.bind, List.getElem?_cons_zero, List.getElem?_cons_succ, List.set_cons_zero, List.set_cons_succ, List.getElem?_nil, List.length_cons, List.length_nil, big0, big1, big2, big3, big4, big5, if_true, if_false, Bool.not_true, Bool.not_false, e3, e1, if_true, Int.toNat_natCast]
    have e5 : rangeD 0 (cnd own) = lD (List.range (cnd own)) := by
      unfold rangeD
      apply List.map_congr_left
      intro i _
      rw [Int.zero_add]
    rw [e5]
  exact (nLc_n e2 (by rw [List.length_range]; omega) (fun x => (decide (x ∈ gapsL own) == decide (cnd own - 1 - x ∈ gapsL own))) nD fun x hx => ⟨_, rfl, by
    have hlt := List.mem_range.mp hx
    have i1 := dIn_n (c := .lst (lD (gapsL own))) (gapsL own) x (.inl rfl)
    have i2 := dIn_n (c := .lst (lD (gapsL own))) (gapsL own) (cnd own - 1 - x) (.inl rfl)
    have i3 : dSub (.int ((cnd own : Int) - 1)) (nD x) = some (nD (cnd own - 1 - x)) := by
      rw [dSub_i, show (cnd own : Int) - 1 - (x : Int) = ((cnd own - 1 - x : Nat) : Int) by omega]
    simp only [sSeq, sNext, sIfS, sRet, sDrop, sAsg, sPar, sAug, sAsgN, sParN, sParM, sApp, sExt, sSetIx, sFrz, sRaise, sVar, sC, sOp, sUn, sCb, sCons, sConsTw, sNil, sTup, sLst, nLst, nOp, sNw, sTest, sAnd, sOr, sNot, sAndV, sOrV, sNotV, sIf, sChain, sIxOw, sLenOw, sSl, sSlOw, sPart, sNoPart, sCallP, liftR, noEx, sThaw, sThawT, sIsi, nSeq, sTick, sYes, bindE, bindS, optE, asB, asI, G.plain, gN, gT, gTs, wipeD, Option.map, Option.bind, List.getElem?_cons_zero, List.getElem?_cons_succ, List.set_cons_zero, List.set_cons_succ, List.getElem?_nil, List.length_cons, List.length_nil, big0, big1, big2, big3, big4, big5, if_true, if_false, Bool.not_true, Bool.not_false, i1, i2, i3, dEq_bb], fun _ => rfl⟩)
/-! ### the loop of draws -/
abbrev drE : SE := sOp dAdd (sC (.int 2)) (sCallT g__law_draw (sCons (sVar 0) (sConsTw 1 (sCons (sC (.int 97)) sNil))))
theorem dr_ok {ms : List Int} (hl : ms.length ≤ 63) {own : List Nat} {n : Nat} (hn : n < 9999999) {x4 x5 x6 x7 x8 x9 : SV} : drE (S ms own x4 x5 x6 x7 x8 x9) n = .ok (nD (2 + gw (spunV (cellV ms (n + 1)) (n + 1))), n + 1) := by
  have e := draw_val ms n hn hl
  have e2 : sCallT g__law_draw (sCons (sVar 0) (sConsTw 1 (sCons (sC (.int 97)) sNil))) (S ms own x4 x5 x6 x7 x8 x9) n = _ := sCallT_eq (xs := [.d (.scr ms), .tw, .d (.int 97)]) rfl rfl e
  exact sOp_eq rfl e2 (dAdd_n 2 _)
theorem asg_eq {i : Nat} {e : SE} {s : SD} {n n1 : Nat} {d : D} (h : e s n = .ok (d, n1)) : sAsg i e s n = .nx (s.set i (.im d)) n1 := by
  unfold sAsg
  rw [h]
  rfl
theorem gw_lt (w : Nat) : gw w < 97 := Nat.mod_lt _ (by decide)
abbrev wT : ST := sTest (sOp dNe (sCallP g__law_gcd (sCons (sLst (sCons (sVar 6) (sCons (sVar 7) sNil))) sNil)) (sC (.int 1)))
theorem gcd2 (a b : Nat) : gcdL [a, b] = Nat.gcd a b := by
  show Nat.gcd a (Nat.gcd b 0) = _
  rw [Nat.gcd_zero_right]
theorem w_test {ms : List Int} {own : List Nat} {n a b : Nat} (ha : a < 99) (hb : b < 99) {x4 x5 x8 x9 : SV} : wT (S ms own x4 x5 (.im (nD a)) (.im (nD b)) x8 x9) n = .ok (decide (Nat.gcd a b ≠ 1), n) := by
  have e1 : g__law_gcd [.lst [nD a, nD b]] = _ := lawGcd_eq (l := [a, b]) (.inl rfl) fun x hx => by
    simp only [List.mem_cons, List.not_mem_nil, or_false] at hx
    omega
  rw [gcd2] at e1
  have e2 := dNe_n (Nat.gcd a b) 1
  simp only [sSeq, sNext, sIfS, sRet, sDrop, sAsg, sPar, sAug, sAsgN, sParN, sParM, sApp, sExt, sSetIx, sFrz, sRaise, sVar, sC, sOp, sUn, sCb, sCons, sConsTw, sNil, sTup, sLst, nLst, nOp, sNw, sTest, sAnd, sOr, sNot, sAndV, sOrV, sNotV, sIf, sChain, sIxOw, sLenOw, sSl, sSlOw, sPart, sNoPart, sCallP, liftR, noEx, sThaw, sThawT, sIsi, nSeq, sTick, sYes, bindE, bindS, optE, asB, asI, G.plain, gN, gT, gTs, wipeD, Option.map, Option.bind, List.getElem?_cons_zero, List.getElem?_cons_succ, List.set_cons_zero, List.set_cons_succ, List.getElem?_nil, List.length_cons, List.length_nil, big0, big1, big2, big3, big4, big5, if_true, if_false, Bool.not_true, Bool.not_false, e1, show dNe (nD (Nat.gcd a b)) (.int 1) = _ from e2]
theorem w_loop {ms : List Int} (hl : ms.length ≤ 63) {own : List Nat} {a K : Nat} (ha2 : a < 99) (hK : K < 9900000) (hg : Nat.gcd a (2 + gw (spunV (cellV ms K) K)) = 1) {x4 x5 x8 x9 : SV} : ∀ (d fuel n b : Nat), n + d = K → d < fuel → 2 ≤ b → b < 99 → (d = 0 → Nat.gcd a b = 1) →
    ∃ b' n', 2 ≤ b' ∧ b' < 99 ∧ Nat.gcd a b' = 1 ∧ sWhile wT (sAsg 7 drE) fuel (S ms own x4 x5 (.im (nD a)) (.im (nD b)) x8 x9) n = .nx (S ms own x4 x5 (.im (nD a)) (.im (nD b')) x8 x9) n'
  | _, 0, _, _, _, h, _, _, _ => by omega
  | d, fuel + 1, n, b, h1, h2, h3, h4, h5 => by
    have t := w_test (ms := ms) (own := own) (n := n) ha2 h4 (x4 := x4) (x5 := x5) (x8 := x8) (x9 := x9)
    by_cases hc : Nat.gcd a b = 1
    · rw [decide_eq_false (by rw [Classical.not_not]; exact hc)] at t
      exact ⟨b, n, h3, h4, hc, sWhile_stop t⟩
    · rw [decide_eq_true hc] at t
      cases d with
      | zero => exact absurd (h5 rfl) hc
      | succ d =>
        have e := dr_ok hl (own := own) (n := n) (by omega) (x4 := x4) (x5 := x5) (x6 := .im (nD a)) (x7 := .im (nD b)) (x8 := x8) (x9 := x9)
        have hv := gw_lt (spunV (cellV ms (n + 1)) (n + 1))
        obtain ⟨b', n', q1, q2, q3, q4⟩ := w_loop hl ha2 hK hg (own := own) (x4 := x4) (x5 := x5) (x8 := x8) (x9 := x9) d fuel (n + 1) (2 + gw (spunV (cellV ms (n + 1)) (n + 1))) (by omega) (by omega) (by omega) (by omega) (fun hd => by
          rw [show n + 1 = K by omega]
          exact hg)
        refine ⟨b', n', q1, q2, q3, (sWhile_go t ?_).trans q4⟩
        unfold sAsg
        rw [e]
        rfl
/-! ### two numbers -/
theorem nice1 : Nice [1] := ⟨fun x hx => by rw [List.mem_singleton.mp hx]; decide, rfl⟩
theorem sum1 (n : Nat) : Sum [1] n := by
  have := (Sum.gen (G := [1]) (g := 1) List.mem_cons_self).mul n
  rwa [Nat.mul_one] at this
theorem cnd1 : cnd [1] = 0 := by
  unfold cnd
  rw [gaps_one]
  rfl
theorem gl1 (a b : Nat) : gl [1] [1] a b = [a, b] := by
  show [a * 1, b * 1] = _
  rw [Nat.mul_one, Nat.mul_one]
theorem pair_nice {a b : Nat} (ha : 2 ≤ a) (hb : 2 ≤ b) (hg : Nat.gcd a b = 1) : Nice [a, b] := by
  have := gl_nice nice1 nice1 (a := a) (b := b) (by omega) (by omega) hg
  rwa [gl1] at this
theorem pair_cnd {a b : Nat} (ha : 2 ≤ a) (hb : 2 ≤ b) (hg : Nat.gcd a b = 1) : (cnd [a, b] : Int) - 1 = a * b - a - b := by
  have := gl_cnd nice1 nice1 (a := a) (b := b) (by omega) (by omega) hg (sum1 a) (sum1 b)
  rw [gl1, cnd1] at this
  rw [this]
  generalize (a : Int) * b = z
  simp only [Int.natCast_zero]
  omega
theorem pair_genus {a b : Nat} (ha : 2 ≤ a) (hb : 2 ≤ b) (hg : Nat.gcd a b = 1) : (2 * (gapsL [a, b]).length : Int) = (a - 1) * (b - 1) := by
  have := gl_genus nice1 nice1 (a := a) (b := b) (by omega) (by omega) hg (sum1 a) (sum1 b)
  rw [gl1, gaps_one] at this
  rw [this]
  simp
theorem pair_lt {a b : Nat} (ha : 2 ≤ a) (hlt : a < b) (hg : Nat.gcd a b = 1) : gens [a, b] = [a, b] ∧ gens [b, a] = [a, b] := by
  have hs : [a, b].Pairwise (· < ·) := by simp [hlt]
  have key : gens [a, b] = [a, b] := by
    refine sorted_ext (gens_sorted _) hs fun k => ⟨fun hk => gens_of hk, fun hk => ?_⟩
    have hpos : ∀ x ∈ [a, b], 0 < x := fun x hx => by
      simp only [List.mem_cons, List.not_mem_nil, or_false] at hx
      omega
    have hle : ∀ n, 0 < n → Sum [a, b] n → a ≤ n := fun n hn h => by
      rcases h.last with h | ⟨g, w, h1, h2, h3⟩
      · omega
      · simp only [List.mem_cons, List.not_mem_nil, or_false] at h1
        omega
    have hmul : ∀ n, n < b → Sum [a, b] n → ∃ j, n = j * a := fun n hn h => by
      obtain ⟨w, j, h1, h2⟩ := Sum.cons_iff.mp h
      obtain ⟨w', j', h3, h4⟩ := Sum.cons_iff.mp h1
      have h5 := h3.nil
      subst h5
      rcases Nat.eq_zero_or_pos j' with z | z
      · subst z
        exact ⟨j, by omega⟩
      · have := Nat.mul_le_mul_right b z
        omega
    refine (mem_gens hpos k).mpr ⟨hpos k hk, .gen hk, fun x y hx hy sx sy e => ?_⟩
    simp only [List.mem_cons, List.not_mem_nil, or_false] at hk
    have h1 := hle x hx sx
    have h2 := hle y hy sy
    rcases hk with rfl | rfl
    · omega
    · obtain ⟨j, hj⟩ := hmul x (by omega) sx
      obtain ⟨i, hi⟩ := hmul y (by omega) sy
      have hd : a ∣ k := ⟨j + i, by rw [← e, hj, hi, Nat.mul_comm a, Nat.add_mul]⟩
      have := Nat.dvd_gcd (Nat.dvd_refl a) hd
      rw [hg] at this
      have := Nat.dvd_one.mp this
      omega
  refine ⟨key, ?_⟩
  rw [← key]
  unfold gens
  congr 1
  refine sorted_ext (us_sorted _) (us_sorted _) fun k => ?_
  rw [us_mem, us_mem]
  simp only [List.mem_cons, List.not_mem_nil, or_false]
  exact Or.comm
theorem pair_gens {a b : Nat} (ha : 2 ≤ a) (hb : 2 ≤ b) (hg : Nat.gcd a b = 1) : gens [a, b] = [min a b, max a b] := by
  rcases Nat.lt_trichotomy a b with h | h | h
  · rw [(pair_lt ha h hg).1, Nat.min_eq_left (by omega), Nat.max_eq_right (by omega)]
  · subst h
    rw [Nat.gcd_self] at hg
    omega
  · rw [(pair_lt hb h (by rw [Nat.gcd_comm]; exact hg)).2, Nat.min_eq_right (by omega), Nat.max_eq_left (by omega)]
theorem bMin2 (a b : Nat) : bMin [nD a, nD b] = some (nD (min a b)) := by
  show some (D.int (if ((b : Nat) : Int) < ((a : Nat) : Int) then (b : Int) else (a : Int))) = _
  split
  · rw [Nat.min_eq_right (by omega)]
  · rw [Nat.min_eq_left (by omega)]
theorem bMax2 (a b : Nat) : bMax [nD a, nD b] = some (nD (max a b)) := by
  show some (D.int (if ((a : Nat) : Int) < ((b : Nat) : Int) then (b : Int) else (a : Int))) = _
  split
  · rw [Nat.max_eq_right (by omega)]
  · rw [Nat.max_eq_left (by omega)]
theorem law_true (ms : List Int) (h : ms.length ≤ 63) : g_law [.scr ms] = .ok (.bl true) := by
  obtain ⟨l, n1, h1, h2, h3, h4, h5, e1⟩ := numbers_ok (ms := ms) (top := 18) (most := 4) (n := 0) h (by decide) (by decide) (by decide) (by decide) (by decide)
  have hl24 : ∀ x ∈ l, 1 ≤ x ∧ x ≤ 24 := fun x hx => ⟨(h3 x hx).1, by have := (h3 x hx).2; omega⟩
  have hs := isSg_small h1 hl24 h4
  have e2 := own_ok h1 h2 hl24
  generalize gens l = own at hs e2
  have e3 := hs.holes
  have hlg := hs.len_gaps
  have hcl := hs.cnd_le
  have e8 : dNeg (.int 1) = some (.int (-1)) := rfl
  have f1 : dAdd (.lst (lD (gapsL own))) (.lst [.int (-1)]) = some (.lst (lD (gapsL own) ++ [.int (-1)])) := dAdd_lst (by
    rw [List.length_map]
    simp only [List.length_cons, List.length_nil]
    omega)
  have f2 := bMax_gaps1 hs.nice
  have f3 := od_eq (n := n1) hs (ms := ms) (x5 := .un) (x6 := .un) (x7 := .un) (x8 := .un) (x9 := .un)
  have f4 := hs.symm
  have f5 : dEq (.lst (lD (alike own))) (.lst []) = _ := dEq_lst (alike own) []
  have f6 : decide (alike own = []) = decide (2 * (gapsL own).length = cnd own) := decide_eq_decide.mpr (alike_nil hs)
  rw [f6] at f5
  have f7 := sameTruth_b (decide (2 * (gapsL own).length = cnd own)) (decide (2 * (gapsL own).length = cnd own))
  rw [decide_eq_true rfl] at f7
  have f8 := bLen_of (c := .lst (lD (gapsL own))) (.inl rfl)
  have f9 := dMul2_n (gapsL own).length
  have g1 : dAdd (.int ((cnd own : Int) - 1)) (.int 1) = some (nD (cnd own)) := by
    rw [dAdd_i, show (cnd own : Int) - 1 + 1 = (cnd own : Int) by omega]
  have g2 := dEq_n (2 * (gapsL own).length) (cnd own)
  have c1 : sCallT g__law_numbers (sCons (sVar 0) (sConsTw 1 (sCons (sC (.int 18)) (sCons (sC (.int 4)) sNil)))) [.im (.scr ms), .tw, .un, .un, .un, .un, .un, .un, .un, .un] 0 = .ok (.lst (lD l), n1) := sCallT_eq (xs := [.d (.scr ms), .tw, .d (nD 18), .d (nD 4)]) rfl rfl e1
  show endP (f_law [.im (.scr ms), .un, .un, .un, .un, .un, .un, .un, .un, .un] 0) = _
  have a1 : ∀ (g : SS) (n' : Nat), f_law = sTown 1 g → g [.im (.scr ms), .tw, .un, .un, .un, .un, .un, .un, .un, .un] 0 = .rt (.bl true) n' → endP (f_law [.im (.scr ms), .un, .un, .un, .un, .un, .un, .un, .un, .un] 0) = .ok (.bl true) := fun g n' e1 e2 => by
    rw [e1]
    unfold sTown
    simp only [List.set_cons_succ, List.set_cons_zero, e2, endP]
  -- the draws
  have d1 := dr_ok h (own := own) (n := n1) (by omega) (x4 := .im (.int ((cnd own : Int) - 1))) (x5 := .im (.lst (lD (alike own)))) (x6 := .un) (x7 := .un) (x8 := .un) (x9 := .un)
  have hv1 := gw_lt (spunV (cellV ms (n1 + 1)) (n1 + 1))
  generalize gw (spunV (cellV ms (n1 + 1)) (n1 + 1)) = v1 at d1 hv1
  have d2 := dr_ok h (own := own) (n := n1 + 1) (by omega) (x4 := .im (.int ((cnd own : Int) - 1))) (x5 := .im (.lst (lD (alike own)))) (x6 := .im (nD (2 + v1))) (x7 := .un) (x8 := .un) (x9 := .un)
  have hv2 := gw_lt (spunV (cellV ms (n1 + 1 + 1)) (n1 + 1 + 1))
  generalize gw (spunV (cellV ms (n1 + 1 + 1)) (n1 + 1 + 1)) = v2 at d2 hv2
  obtain ⟨K, k1, k2, k3⟩ := draw_good ms h (a := 2 + v1) (by omega) (by omega)
  obtain ⟨b, n', q1, q2, q3, q4⟩ := w_loop h (own := own) (a := 2 + v1) (by omega) k2 k3 (x4 := .im (.int ((cnd own : Int) - 1))) (x5 := .im (.lst (lD (alike own)))) (x8 := .un) (x9 := .un) (K - (n1 + 1 + 1)) 9990000 (n1 + 1 + 1) (2 + v2) (by omega) (by omega) (by omega) (by omega) (fun z => by omega)
  have ha1 : 2 ≤ 2 + v1 := by omega
  have ha2 : 2 + v1 < 99 := by omega
  generalize 2 + v1 = a at *
  refine a1 _ n' rfl ?_
  refine (sSeq_nx (s' := [.im (.scr ms), .tw, .im (.tup (lD own)), .un, .un, .un, .un, .un, .un, .un]) (n' := n1) (by simp only [sSeq, sNext, sIfS, sRet, sDrop, sAsg, sPar, sAug, sAsgN, sParN, sParM, sApp, sExt, sSetIx, sFrz, sRaise, sVar, sC, sOp, sUn, sCb, sCons, sConsTw, sNil, sTup, sLst, nLst, nOp, sNw, sTest, sAnd, sOr, sNot, sAndV, sOrV, sNotV, sIf, sChain, sIxOw, sLenOw, sSl, sSlOw, sPart, sNoPart, sCallP, liftR, noEx, sThaw, sThawT, sIsi, nSeq, sTick, sYes, bindE, bindS, optE, asB, asI, G.plain, gN, gT, gTs, wipeD, Option.map, Option.bind, List.getElem?_cons_zero, List.getElem?_cons_succ, List.set_cons_zero, List.set_cons_succ, List.getElem?_nil, List.length_cons, List.length_nil, big0, big1, big2, big3, big4, big5, if_true, if_false, Bool.not_true, Bool.not_false, c1, e2])).trans ?_
  refine (sSeq_nx (s' := S ms own .un .un .un .un .un .un) (n' := n1) (by simp only [sSeq, sNext, sIfS, sRet, sDrop, sAsg, sPar, sAug, sAsgN, sParN, sParM, sApp, sExt, sSetIx, sFrz, sRaise, sVar, sC, sOp, sUn, sCb, sCons, sConsTw, sNil, sTup, sLst, nLst, nOp, sNw, sTest, sAnd, sOr, sNot, sAndV, sOrV, sNotV, sIf, sChain, sIxOw, sLenOw, sSl, sSlOw, sPart, sNoPart, sCallP, liftR, noEx, sThaw, sThawT, sIsi, nSeq, sTick, sYes, bindE, bindS, optE, asB, asI, G.plain, gN, gT, gTs, wipeD, Option.map, Option.bind, List.getElem?_cons_zero, List.getElem?_cons_succ, List.set_cons_zero, List.set_cons_succ, List.getElem?_nil, List.length_cons, List.length_nil, big0, big1, big2, big3, big4, big5, if_true, if_false, Bool.not_true, Bool.not_false, e3])).trans ?_
  refine (sSeq_nx (s' := S ms own (.im (.int ((cnd own : Int) - 1))) .un .un .un .un .un) (n' := n1) (by simp only [sSeq, sNext, sIfS, sRet, sDrop, sAsg, sPar, sAug, sAsgN, sParN, sParM, sApp, sExt, sSetIx, sFrz, sRaise, sVar, sC, sOp, sUn, sCb, sCons, sConsTw, sNil, sTup, sLst, nLst, nOp, sNw, sTest, sAnd, sOr, sNot, sAndV, sOrV, sNotV, sIf, sChain, sIxOw, sLenOw, sSl, sSlOw, sPart, sNoPart, sCallP, liftR, noEx, sThaw, sThawT, sIsi, nSeq, sTick, sYes, bindE, bindS, optE, asB, asI, G.plain, gN, gT, gTs, wipeD, Option.map, Option.bind, List.getElem?_cons_zero, List.getElem?_cons_succ, List.set_cons_zero, List.set_cons_succ, List.getElem?_nil, List.length_cons, List.length_nil, big0, big1, big2, big3, big4, big5, if_true, if_false, Bool.not_true, Bool.not_false, e8, f1, f2])).trans ?_
  refine (sSeq_nx (s' := S ms own (.im (.int ((cnd own : Int) - 1))) (.im (.lst (lD (alike own)))) .un .un .un .un) (n' := n1) (by simp only [sSeq, sNext, sIfS, sRet, sDrop, sAsg, sPar, sAug, sAsgN, sParN, sParM, sApp, sExt, sSetIx, sFrz, sRaise, sVar, sC, sOp, sUn, sCb, sCons, sConsTw, sNil, sTup, sLst, nLst, nOp, sNw, sTest, sAnd, sOr, sNot, sAndV, sOrV, sNotV, sIf, sChain, sIxOw, sLenOw, sSl, sSlOw, sPart, sNoPart, sCallP, liftR, noEx, sThaw, sThawT, sIsi, nSeq, sTick, sYes, bindE, bindS, optE, asB, asI, G.plain, gN, gT, gTs, wipeD, Option.map, Option.bind, List.getElem?_cons_zero, List.getElem?_cons_succ, List.set_cons_zero, List.set_cons_succ, List.getElem?_nil, List.length_cons, List.length_nil, big0, big1, big2, big3, big4, big5, if_true, if_false, Bool.not_true, Bool.not_false, f3])).trans ?_
  refine (sSeq_nx (s' := S ms own (.im (.int ((cnd own : Int) - 1))) (.im (.lst (lD (alike own)))) .un .un .un .un) (n' := n1) (by simp only [sSeq, sNext, sIfS, sRet, sDrop, sAsg, sPar, sAug, sAsgN, sParN, sParM, sApp, sExt, sSetIx, sFrz, sRaise, sVar, sC, sOp, sUn, sCb, sCons, sConsTw, sNil, sTup, sLst, nLst, nOp, sNw, sTest, sAnd, sOr, sNot, sAndV, sOrV, sNotV, sIf, sChain, sIxOw, sLenOw, sSl, sSlOw, sPart, sNoPart, sCallP, liftR, noEx, sThaw, sThawT, sIsi, nSeq, sTick, sYes, bindE, bindS, optE, asB, asI, G.plain, gN, gT, gTs, wipeD, Option.map, Option.bind, List.getElem?_cons_zero, List.getElem?_cons_succ, List.set_cons_zero, List.set_cons_succ, List.getElem?_nil, List.length_cons, List.length_nil, big0, big1, big2, big3, big4, big5, if_true, if_false, Bool.not_true, Bool.not_false, f4, f5, f7, f8, f9, g1, g2, dNe_bb])).trans ?_
  refine (sSeq_nx (s' := S ms own (.im (.int ((cnd own : Int) - 1))) (.im (.lst (lD (alike own)))) (.im (nD a)) .un .un .un) (n' := n1 + 1) (asg_eq d1)).trans ?_
  refine (sSeq_nx (s' := S ms own (.im (.int ((cnd own : Int) - 1))) (.im (.lst (lD (alike own)))) (.im (nD a)) (.im (nD (2 + v2))) .un .un) (n' := n1 + 1 + 1) (asg_eq d2)).trans ?_
  refine (sSeq_nx q4).trans ?_
  -- the pair
  have N := pair_nice ha1 q1 q3
  have P := pair_gens ha1 q1 q3
  have hsum := gens_iff [a, b]
  have T : IsSg (gens [a, b]) := isSg_of N.ne N.pos (fun x hx => by
    simp only [List.mem_cons, List.not_mem_nil, or_false] at hx
    omega) N.gcd (by rw [P]; exact Nat.le_of_ble_eq_true rfl)
  have p1 : g_from_numbers [.lst [nD a, nD b]] = _ := fromNumbers_eq (l := [a, b]) (Nat.le_of_ble_eq_true rfl) (Nat.le_of_ble_eq_true rfl) (fun x hx => by
    simp only [List.mem_cons, List.not_mem_nil, or_false] at hx
    omega) N.gcd (by rw [P]; exact Nat.le_of_ble_eq_true rfl)
  have i4 : gapsL [a, b] = gapsL (gens [a, b]) := gapsL_same N.pos N.gcd T.nice.pos fun k => (hsum k).symm
  have i5 : cnd [a, b] = cnd (gens [a, b]) := by unfold cnd; rw [i4]
  have p2 := bMin2 a b
  have p3 := bMax2 a b
  have p4 : dNe (.tup (lD (gens [a, b]))) (.tup [nD (min a b), nD (max a b)]) = some (.bl false) := by
    have := dNe_tup (gens [a, b]) [min a b, max a b]
    rw [decide_eq_false (by rw [Classical.not_not]; exact P)] at this
    exact this
  have p5 := T.ggap
  have j1 := pair_cnd ha1 q1 q3
  have j2 := pair_genus ha1 q1 q3
  rw [i5] at j1
  rw [i4] at j2
  have p6 : dMul (nD a) (nD b) = some (.int ((a : Int) * b)) := dMul_sm (okI_n (by omega))
  have p7 := dNe_i ((a : Int) * b - a - b) ((a : Int) * b - a - b)
  rw [decide_eq_false (fun z => z rfl)] at p7
  rw [j1] at p5
  have p8 := T.genus
  have p9 : dMul (.int 2) (nD (gapsL (gens [a, b])).length) = some (.int (((a : Int) - 1) * (b - 1))) := by
    rw [dMul2_n, ← j2]
    show some (D.int ((2 * (gapsL (gens [a, b])).length : Nat) : Int)) = _
    rw [Int.natCast_mul]
    rfl
  have r1 : dMul (.int ((a : Int) - 1)) (.int ((b : Int) - 1)) = some (.int (((a : Int) - 1) * (b - 1))) := dMul_sm (okI_of (by omega) (by omega))
  have r2 := dNe_i (((a : Int) - 1) * (b - 1)) (((a : Int) - 1) * (b - 1))
  rw [decide_eq_false (fun z => z rfl)] at r2
  have r3 : 2 * (gapsL (gens [a, b])).length = cnd (gens [a, b]) := by
    have : (2 * (gapsL (gens [a, b])).length : Int) = (cnd (gens [a, b]) : Int) := by
      rw [j2, Int.sub_mul, Int.mul_sub, Int.mul_one, Int.one_mul]
      omega
    omega
  have r4 := T.symm
  rw [decide_eq_true r3] at r4
  have r5 := T.irr
  rw [decide_eq_true (.inl r3)] at r5
  have r6 : dIs (.bl true) (.bl true) = some (.bl true) := rfl
  refine (sSeq_nx (s' := S ms own (.im (.int ((cnd own : Int) - 1))) (.im (.lst (lD (alike own)))) (.im (nD a)) (.im (nD b)) (.im (.tup (lD (gens [a, b])))) .un) (n' := n') (by simp only [sSeq, sNext, sIfS, sRet, sDrop, sAsg, sPar, sAug, sAsgN, sParN, sParM, sApp, sExt, sSetIx, sFrz, sRaise, sVar, sC, sOp, sUn, sCb, sCons, sConsTw, sNil, sTup, sLst, nLst, nOp, sNw, sTest, sAnd, sOr, sNot, sAndV, sOrV, sNotV, sIf, sChain, sIxOw, sLenOw, sSl, sSlOw, sPart, sNoPart, sCallP, liftR, noEx, sThaw, sThawT, sIsi, nSeq, sTick, sYes, bindE, bindS, optE, asB, asI, G.plain, gN, gT, gTs, wipeD, Option.map, Option.bind, List.getElem?_cons_zero, List.getElem?_cons_succ, List.set_cons_zero, List.set_cons_succ, List.getElem?_nil, List.length_cons, List.length_nil, big0, big1, big2, big3, big4, big5, if_true, if_false, Bool.not_true, Bool.not_false, p1])).trans ?_
  refine (sSeq_nx (s' := S ms own (.im (.int ((cnd own : Int) - 1))) (.im (.lst (lD (alike own)))) (.im (nD a)) (.im (nD b)) (.im (.tup (lD (gens [a, b])))) .un) (n' := n') (by simp only [sSeq, sNext, sIfS, sRet, sDrop, sAsg, sPar, sAug, sAsgN, sParN, sParM, sApp, sExt, sSetIx, sFrz, sRaise, sVar, sC, sOp, sUn, sCb, sCons, sConsTw, sNil, sTup, sLst, nLst, nOp, sNw, sTest, sAnd, sOr, sNot, sAndV, sOrV, sNotV, sIf, sChain, sIxOw, sLenOw, sSl, sSlOw, sPart, sNoPart, sCallP, liftR, noEx, sThaw, sThawT, sIsi, nSeq, sTick, sYes, bindE, bindS, optE, asB, asI, G.plain, gN, gT, gTs, wipeD, Option.map, Option.bind, List.getElem?_cons_zero, List.getElem?_cons_succ, List.set_cons_zero, List.set_cons_succ, List.getElem?_nil, List.length_cons, List.length_nil, big0, big1, big2, big3, big4, big5, if_true, if_false, Bool.not_true, Bool.not_false, p2, p3, p4, p5, p6, dSub_i, p7])).trans ?_
  refine (sSeq_nx (s' := S ms own (.im (.int ((cnd own : Int) - 1))) (.im (.lst (lD (alike own)))) (.im (nD a)) (.im (nD b)) (.im (.tup (lD (gens [a, b])))) .un) (n' := n') (by simp only [sSeq, sNext, sIfS, sRet, sDrop, sAsg, sPar, sAug, sAsgN, sParN, sParM, sApp, sExt, sSetIx, sFrz, sRaise, sVar, sC, sOp, sUn, sCb, sCons, sConsTw, sNil, sTup, sLst, nLst, nOp, sNw, sTest, sAnd, sOr, sNot, sAndV, sOrV, sNotV, sIf, sChain, sIxOw, sLenOw, sSl, sSlOw, sPart, sNoPart, sCallP, liftR, noEx, sThaw, sThawT, sIsi, nSeq, sTick, sYes, bindE, bindS, optE, asB, asI, G.plain, gN, gT, gTs, wipeD, Option.map, Option.bind, List.getElem?_cons_zero, List.getElem?_cons_succ, List.set_cons_zero, List.set_cons_succ, List.getElem?_nil, List.length_cons, List.length_nil, big0, big1, big2, big3, big4, big5, if_true, if_false, Bool.not_true, Bool.not_false, p8, p9, dSub_i, r1, r2])).trans ?_
  simp only [sSeq, sNext, sIfS, sRet, sDrop, sAsg, sPar, sAug, sAsgN, sParN, sParM, sApp, sExt, sSetIx, sFrz, sRaise, sVar, sC, sOp, sUn, sCb, sCons, sConsTw, sNil, sTup, sLst, nLst, nOp, sNw, sTest, sAnd, sOr, sNot, sAndV, sOrV, sNotV, sIf, sChain, sIxOw, sLenOw, sSl, sSlOw, sPart, sNoPart, sCallP, liftR, noEx, sThaw, sThawT, sIsi, nSeq, sTick, sYes, bindE, bindS, optE, asB, asI, G.plain, gN, gT, gTs, wipeD, Option.map, Option.bind, List.getElem?_cons_zero, List.getElem?_cons_succ, List.set_cons_zero, List.set_cons_succ, List.getElem?_nil, List.length_cons, List.length_nil, big0, big1, big2, big3, big4, big5, if_true, if_false, Bool.not_true, Bool.not_false, r4, r5, r6]
end Gk07
end

section
set_option Elab.async false
set_option linter.all false
set_option backward.match.sparseCases false
set_option maxRecDepth 100000
set_option maxHeartbeats 4000000
namespace Gk07
open G Gp L2 PySem PyProof.Rows PySem.Spec
def topS (i : Nat) : Stmt := PySem.Challenge.pw_sumgaps_k07_whole_symmetry.main.body.getD i (.Pass ⟨0, 0, 0, 0⟩)
abbrev st_is_integer : Stmt := topS 9
abbrev N_is_integer : List Str := ["value", "low", "high"]
theorem sc_is_integer : FnScope N_is_integer ["value", "low", "high"] (defScope st_is_integer) := ⟨rfl, rfl, rfl, by decide +kernel, rfl, by decide +kernel, by decide +kernel⟩
abbrev st_divisor_of : Stmt := topS 10
abbrev N_divisor_of : List Str := ["one", "other"]
theorem sc_divisor_of : FnScope N_divisor_of ["one", "other"] (defScope st_divisor_of) := ⟨rfl, rfl, rfl, by decide +kernel, rfl, by decide +kernel, by decide +kernel⟩
abbrev st_common_divisor : Stmt := topS 11
abbrev N_common_divisor : List Str := ["numbers", "result", "one"]
theorem sc_common_divisor : FnScope N_common_divisor ["numbers"] (defScope st_common_divisor) := ⟨rfl, rfl, rfl, by decide +kernel, rfl, by decide +kernel, by decide +kernel⟩
abbrev st_least_by : Stmt := topS 12
abbrev N_least_by : List Str := ["generators", "m", "least", "one", "start", "place", "rounds", "after"]
theorem sc_least_by : FnScope N_least_by ["generators", "m"] (defScope st_least_by) := ⟨rfl, rfl, rfl, by decide +kernel, rfl, by decide +kernel, by decide +kernel⟩
abbrev st_reduced : Stmt := topS 13
abbrev N_reduced : List Str := ["numbers", "ordered", "m", "found", "least", "one"]
theorem sc_reduced : FnScope N_reduced ["numbers"] (defScope st_reduced) := ⟨rfl, rfl, rfl, by decide +kernel, rfl, by decide +kernel, by decide +kernel⟩
abbrev st_is_semigroup : Stmt := topS 14
abbrev N_is_semigroup : List Str := ["value", "one"]
theorem sc_is_semigroup : FnScope N_is_semigroup ["value"] (defScope st_is_semigroup) := ⟨rfl, rfl, rfl, by decide +kernel, rfl, by decide +kernel, by decide +kernel⟩
abbrev st_check_semigroup : Stmt := topS 15
abbrev N_check_semigroup : List Str := ["semigroup"]
theorem sc_check_semigroup : FnScope N_check_semigroup ["semigroup"] (defScope st_check_semigroup) := ⟨rfl, rfl, rfl, by decide +kernel, rfl, by decide +kernel, by decide +kernel⟩
abbrev st_limited : Stmt := topS 16
abbrev N_limited : List Str := ["generators", "result"]
theorem sc_limited : FnScope N_limited ["generators"] (defScope st_limited) := ⟨rfl, rfl, rfl, by decide +kernel, rfl, by decide +kernel, by decide +kernel⟩
abbrev st_from_numbers : Stmt := topS 17
abbrev N_from_numbers : List Str := ["numbers", "one"]
theorem sc_from_numbers : FnScope N_from_numbers ["numbers"] (defScope st_from_numbers) := ⟨rfl, rfl, rfl, by decide +kernel, rfl, by decide +kernel, by decide +kernel⟩
abbrev st_gap_list : Stmt := topS 18
abbrev N_gap_list : List Str := ["semigroup", "m", "result", "remainder", "least"]
theorem sc_gap_list : FnScope N_gap_list ["semigroup"] (defScope st_gap_list) := ⟨rfl, rfl, rfl, by decide +kernel, rfl, by decide +kernel, by decide +kernel⟩
abbrev st_greatest_of : Stmt := topS 19
abbrev N_greatest_of : List Str := ["semigroup"]
theorem sc_greatest_of : FnScope N_greatest_of ["semigroup"] (defScope st_greatest_of) := ⟨rfl, rfl, rfl, by decide +kernel, rfl, by decide +kernel, by decide +kernel⟩
abbrev st_genus : Stmt := topS 20
abbrev N_genus : List Str := ["semigroup"]
theorem sc_genus : FnScope N_genus ["semigroup"] (defScope st_genus) := ⟨rfl, rfl, rfl, by decide +kernel, rfl, by decide +kernel, by decide +kernel⟩
abbrev st_greatest_gap : Stmt := topS 21
abbrev N_greatest_gap : List Str := ["semigroup"]
theorem sc_greatest_gap : FnScope N_greatest_gap ["semigroup"] (defScope st_greatest_gap) := ⟨rfl, rfl, rfl, by decide +kernel, rfl, by decide +kernel, by decide +kernel⟩
abbrev st_is_symmetric : Stmt := topS 23
abbrev N_is_symmetric : List Str := ["semigroup"]
theorem sc_is_symmetric : FnScope N_is_symmetric ["semigroup"] (defScope st_is_symmetric) := ⟨rfl, rfl, rfl, by decide +kernel, rfl, by decide +kernel, by decide +kernel⟩
abbrev st_is_irreducible : Stmt := topS 24
abbrev N_is_irreducible : List Str := ["semigroup"]
theorem sc_is_irreducible : FnScope N_is_irreducible ["semigroup"] (defScope st_is_irreducible) := ⟨rfl, rfl, rfl, by decide +kernel, rfl, by decide +kernel, by decide +kernel⟩
abbrev st__law_cell_at : Stmt := topS 26
abbrev N__law_cell_at : List Str := ["script", "k", "spare", "again"]
theorem sc__law_cell_at : FnScope N__law_cell_at ["script", "k"] (defScope st__law_cell_at) := ⟨rfl, rfl, rfl, by decide +kernel, rfl, by decide +kernel, by decide +kernel⟩
abbrev st__law_mixed : Stmt := topS 27
abbrev N__law_mixed : List Str := ["script", "k", "many", "spun"]
theorem sc__law_mixed : FnScope N__law_mixed ["script", "k", "many"] (defScope st__law_mixed) := ⟨rfl, rfl, rfl, by decide +kernel, rfl, by decide +kernel, by decide +kernel⟩
abbrev st__law_draw : Stmt := topS 28
abbrev N__law_draw : List Str := ["script", "town", "many"]
theorem sc__law_draw : FnScope N__law_draw ["script", "town", "many"] (defScope st__law_draw) := ⟨rfl, rfl, rfl, by decide +kernel, rfl, by decide +kernel, by decide +kernel⟩
abbrev st__law_same_truth : Stmt := topS 29
abbrev N__law_same_truth : List Str := ["got", "due"]
theorem sc__law_same_truth : FnScope N__law_same_truth ["got", "due"] (defScope st__law_same_truth) := ⟨rfl, rfl, rfl, by decide +kernel, rfl, by decide +kernel, by decide +kernel⟩
abbrev st__law_gcd : Stmt := topS 30
abbrev N__law_gcd : List Str := ["some", "total", "one"]
theorem sc__law_gcd : FnScope N__law_gcd ["some"] (defScope st__law_gcd) := ⟨rfl, rfl, rfl, by decide +kernel, rfl, by decide +kernel, by decide +kernel⟩
abbrev st__law_sieve : Stmt := topS 31
abbrev N__law_sieve : List Str := ["some", "top", "inside", "number", "one"]
theorem sc__law_sieve : FnScope N__law_sieve ["some", "top"] (defScope st__law_sieve) := ⟨rfl, rfl, rfl, by decide +kernel, rfl, by decide +kernel, by decide +kernel⟩
abbrev st__law_holes : Stmt := topS 32
abbrev N__law_holes : List Str := ["some", "top", "inside", "run", "number", "one"]
theorem sc__law_holes : FnScope N__law_holes ["some"] (defScope st__law_holes) := ⟨rfl, rfl, rfl, by decide +kernel, rfl, by decide +kernel, by decide +kernel⟩
abbrev st__law_least_set : Stmt := topS 33
abbrev N__law_least_set : List Str := ["some", "kept", "one"]
theorem sc__law_least_set : FnScope N__law_least_set ["some"] (defScope st__law_least_set) := ⟨rfl, rfl, rfl, by decide +kernel, rfl, by decide +kernel, by decide +kernel⟩
abbrev st__law_numbers : Stmt := topS 34
abbrev N__law_numbers : List Str := ["script", "town", "top", "most", "some", "again"]
theorem sc__law_numbers : FnScope N__law_numbers ["script", "town", "top", "most"] (defScope st__law_numbers) := ⟨rfl, rfl, rfl, by decide +kernel, rfl, by decide +kernel, by decide +kernel⟩
abbrev st_law : Stmt := topS 35
abbrev N_law : List Str := ["script", "town", "own", "holes", "top", "odd", "a", "b", "pair", "number"]
theorem sc_law : FnScope N_law ["script"] (defScope st_law) := ⟨rfl, rfl, rfl, by decide +kernel, rfl, by decide +kernel, by decide +kernel⟩
structure Txt (K : Frg) (mg : Str → Option Value) (fa : Nat → Addr) (fd : Nat → FuncData) (ca : Nat → Addr) (tk : Nat → Tok) : Prop where
  F_is_integer : Fun K "is_integer" "is_integer" st_is_integer (fa 0) (fd 0)
  m_is_integer : mg "is_integer" = some (.ref (fa 0))
  b_is_integer : Binds K (fd 0) ["value", "low", "high"] []
  F_divisor_of : Fun K "divisor_of" "divisor_of" st_divisor_of (fa 1) (fd 1)
  m_divisor_of : mg "divisor_of" = some (.ref (fa 1))
  b_divisor_of : Binds K (fd 1) ["one", "other"] []
  F_common_divisor : Fun K "common_divisor" "common_divisor" st_common_divisor (fa 2) (fd 2)
  m_common_divisor : mg "common_divisor" = some (.ref (fa 2))
  b_common_divisor : Binds K (fd 2) ["numbers"] []
  F_least_by : Fun K "least_by" "least_by" st_least_by (fa 3) (fd 3)
  m_least_by : mg "least_by" = some (.ref (fa 3))
  b_least_by : Binds K (fd 3) ["generators", "m"] []
  F_reduced : Fun K "reduced" "reduced" st_reduced (fa 4) (fd 4)
  m_reduced : mg "reduced" = some (.ref (fa 4))
  b_reduced : Binds K (fd 4) ["numbers"] []
  F_is_semigroup : Fun K "is_semigroup" "is_semigroup" st_is_semigroup (fa 5) (fd 5)
  m_is_semigroup : mg "is_semigroup" = some (.ref (fa 5))
  b_is_semigroup : Binds K (fd 5) ["value"] []
  F_check_semigroup : Fun K "check_semigroup" "check_semigroup" st_check_semigroup (fa 6) (fd 6)
  m_check_semigroup : mg "check_semigroup" = some (.ref (fa 6))
  b_check_semigroup : Binds K (fd 6) ["semigroup"] []
  F_limited : Fun K "limited" "limited" st_limited (fa 7) (fd 7)
  m_limited : mg "limited" = some (.ref (fa 7))
  b_limited : Binds K (fd 7) ["generators"] []
  F_from_numbers : Fun K "from_numbers" "from_numbers" st_from_numbers (fa 8) (fd 8)
  m_from_numbers : mg "from_numbers" = some (.ref (fa 8))
  b_from_numbers : Binds K (fd 8) ["numbers"] []
  F_gap_list : Fun K "gap_list" "gap_list" st_gap_list (fa 9) (fd 9)
  m_gap_list : mg "gap_list" = some (.ref (fa 9))
  b_gap_list : Binds K (fd 9) ["semigroup"] []
  F_greatest_of : Fun K "greatest_of" "greatest_of" st_greatest_of (fa 10) (fd 10)
  m_greatest_of : mg "greatest_of" = some (.ref (fa 10))
  b_greatest_of : Binds K (fd 10) ["semigroup"] []
  F_genus : Fun K "genus" "genus" st_genus (fa 11) (fd 11)
  m_genus : mg "genus" = some (.ref (fa 11))
  b_genus : Binds K (fd 11) ["semigroup"] []
  F_greatest_gap : Fun K "greatest_gap" "greatest_gap" st_greatest_gap (fa 12) (fd 12)
  m_greatest_gap : mg "greatest_gap" = some (.ref (fa 12))
  b_greatest_gap : Binds K (fd 12) ["semigroup"] []
  F_is_symmetric : Fun K "is_symmetric" "is_symmetric" st_is_symmetric (fa 13) (fd 13)
  m_is_symmetric : mg "is_symmetric" = some (.ref (fa 13))
  b_is_symmetric : Binds K (fd 13) ["semigroup"] []
  F_is_irreducible : Fun K "is_irreducible" "is_irreducible" st_is_irreducible (fa 14) (fd 14)
  m_is_irreducible : mg "is_irreducible" = some (.ref (fa 14))
  b_is_irreducible : Binds K (fd 14) ["semigroup"] []
  F__law_cell_at : Fun K "_law_cell_at" "_law_cell_at" st__law_cell_at (fa 15) (fd 15)
  m__law_cell_at : mg "_law_cell_at" = some (.ref (fa 15))
  b__law_cell_at : Binds K (fd 15) ["script", "k"] []
  F__law_mixed : Fun K "_law_mixed" "_law_mixed" st__law_mixed (fa 16) (fd 16)
  m__law_mixed : mg "_law_mixed" = some (.ref (fa 16))
  b__law_mixed : Binds K (fd 16) ["script", "k", "many"] []
  F__law_draw : Fun K "_law_draw" "_law_draw" st__law_draw (fa 17) (fd 17)
  m__law_draw : mg "_law_draw" = some (.ref (fa 17))
  b__law_draw : Binds K (fd 17) ["script", "town", "many"] []
  F__law_same_truth : Fun K "_law_same_truth" "_law_same_truth" st__law_same_truth (fa 18) (fd 18)
  m__law_same_truth : mg "_law_same_truth" = some (.ref (fa 18))
  b__law_same_truth : Binds K (fd 18) ["got", "due"] []
  F__law_gcd : Fun K "_law_gcd" "_law_gcd" st__law_gcd (fa 19) (fd 19)
  m__law_gcd : mg "_law_gcd" = some (.ref (fa 19))
  b__law_gcd : Binds K (fd 19) ["some"] []
  F__law_sieve : Fun K "_law_sieve" "_law_sieve" st__law_sieve (fa 20) (fd 20)
  m__law_sieve : mg "_law_sieve" = some (.ref (fa 20))
  b__law_sieve : Binds K (fd 20) ["some", "top"] []
  F__law_holes : Fun K "_law_holes" "_law_holes" st__law_holes (fa 21) (fd 21)
  m__law_holes : mg "_law_holes" = some (.ref (fa 21))
  b__law_holes : Binds K (fd 21) ["some"] []
  F__law_least_set : Fun K "_law_least_set" "_law_least_set" st__law_least_set (fa 22) (fd 22)
  m__law_least_set : mg "_law_least_set" = some (.ref (fa 22))
  b__law_least_set : Binds K (fd 22) ["some"] []
  F__law_numbers : Fun K "_law_numbers" "_law_numbers" st__law_numbers (fa 23) (fd 23)
  m__law_numbers : mg "_law_numbers" = some (.ref (fa 23))
  b__law_numbers : Binds K (fd 23) ["script", "town", "top", "most"] []
  F_law : Fun K "law" "law" st_law (fa 24) (fd 24)
  m_law : mg "law" = some (.ref (fa 24))
  b_law : Binds K (fd 24) ["script"] []
  z_all : mg "all" = none
  z_bool : mg "bool" = none
  z_enumerate : mg "enumerate" = none
  z_int : mg "int" = none
  z_isinstance : mg "isinstance" = none
  z_len : mg "len" = none
  z_list : mg "list" = none
  z_max : mg "max" = none
  z_min : mg "min" = none
  z_range : mg "range" = none
  z_set : mg "set" = none
  z_sorted : mg "sorted" = none
  z_tuple : mg "tuple" = none
  k_LARGEST : mg "LARGEST" = some (.int 99 (tk 0))
  k_COUNT : mg "COUNT" = some (.int 12 (tk 1))
  e_InvalidSemigroup : ErrOk K mg "InvalidSemigroup" (ca 0)
  e_InvalidNumbers : ErrOk K mg "InvalidNumbers" (ca 1)
  e_NotCoprime : ErrOk K mg "NotCoprime" (ca 2)
  e_TooLarge : ErrOk K mg "TooLarge" (ca 3)
section
variable {P : Program} {w : World} {K : Frg} {mg : Str → Option Value} {base : Heap} {fa : Nat → Addr} {fd : Nat → FuncData} {ca : Nat → Addr} {tk : Nat → Tok}
/-- is_integer -/
theorem ok_is_integer (T : Txt K mg fa fd ca tk) : FnOk P w K mg base (L2.CX P w) 1 (fa 0) (fd 0) ["value", "low", "high"] (spP K mg g_is_integer) := by
  refine fnP' (k := 0) (sf := f_is_integer) T.F_is_integer sc_is_integer (by decide) rfl fun cdv A outer s H E hr => ?_
  exact ⟨_, (pss_one (ps_ret (pe_and (pe_callB call_isi (by rfl) T.z_isinstance (by decide +kernel) (pa_cons (pv 0) (pa_cons (pe_bltn (v := .ty "int") (by rfl) T.z_int (by decide +kernel) rfl) pa_nil))) (pe_and (pe_not (pe_callB call_isi (by rfl) T.z_isinstance (by decide +kernel) (pa_cons (pv 0) (pa_cons (pe_bltn (v := .ty "bool") (by rfl) T.z_bool (by decide +kernel) rfl) pa_nil)))) (pe_one (pe_chain op_le op_le (pv 1) (pv 0) (pv 2))))))),
    (sim_ret (sim_andV (sim_isi "int" (sim_var 0)) (sim_andV (sim_notV (sim_isi "bool" (sim_var 0))) (sim_chain s_le s_le (sim_var 1) (sim_var 0) (sim_var 2)))))⟩
/-- divisor_of -/
theorem ok_divisor_of (T : Txt K mg fa fd ca tk) : FnOk P w K mg base (L2.CX P w) 1 (fa 1) (fd 1) ["one", "other"] (spP K mg g_divisor_of) := by
  refine fnP' (k := 0) (sf := f_divisor_of) T.F_divisor_of sc_divisor_of (by decide) rfl fun cdv A outer s H E hr => ?_
  exact ⟨_, (pss_cons (ps_while (passes_of rfl) (pt_cmpR op_gt (pv 1) pe_int (nomark _)) (pss_one (ps_par (by rfl) sc_divisor_of.nd rfl rfl (by decide) rfl rfl (pa_cons (pv 1) (pa_cons (pe_op op_mod (pv 0) (pv 1)) pa_nil)) (by rfl))))
    (pss_one (ps_ret (pv 0)))),
    (sim_seq (sim_while FUEL (sim_test (sim_op s_gt (sim_var 1) (sim_int 0))) (sim_par 0 1 (sim_cons (sim_var 1) (sim_cons (sim_op s_mod (sim_var 0) (sim_var 1)) sim_nil))))
    (sim_ret (sim_var 0)))⟩
/-- common_divisor -/
theorem ok_common_divisor (T : Txt K mg fa fd ca tk) : FnOk P w K mg base (L2.CX P w) 2 (fa 2) (fd 2) ["numbers"] (spP K mg g_common_divisor) := by
  refine fnP' (k := 1) (sf := f_common_divisor) T.F_common_divisor sc_common_divisor (by decide) rfl fun cdv A outer s H E hr => ?_
  have pX : Passes (L2.CX P w) (cxOf (L2.CX P w) P w K mg base N_common_divisor "common_divisor" (defScope st_common_divisor) (fa 2) cdv A outer s H E) E := passes_call (takes_of rfl rfl rfl rfl) fun _ _ _ _ h => h
  exact ⟨_, (pss_cons (ps_set (i := 1) sc_common_divisor.nd rfl (by first | exact Or.inl rfl | exact Or.inr rfl) pe_int)
    (pss_cons (ps_for (passes_of rfl) rfl (pi_seq (pv 0)) (pg_name (i := 2) sc_common_divisor.nd rfl (by first | exact Or.inl rfl | exact Or.inr rfl)) (pss_one (ps_set (i := 1) sc_common_divisor.nd rfl (by first | exact Or.inl rfl | exact Or.inr rfl) (pe_call (ok_divisor_of T) (hr.mono (by decide)) (by rfl) T.m_divisor_of T.F_divisor_of.kp T.b_divisor_of .nil pX (pa_cons (pv 2) (pa_cons (pv 1) pa_nil))))))
    (pss_one (ps_ret (pv 1))))),
    (sim_seq (sim_asg 1 (sim_int 0))
    (sim_seq (sim_for (simI_seq (sim_var 0)) (simG_name 2) (sim_asg 1 (sim_callP (fun _ _ h => h) (sim_cons (sim_var 2) (sim_cons (sim_var 1) sim_nil)))))
    (sim_ret (sim_var 1))))⟩
/-- least_by -/
theorem ok_least_by (T : Txt K mg fa fd ca tk) : FnOk P w K mg base (L2.CX P w) 2 (fa 3) (fd 3) ["generators", "m"] (spP K mg g_least_by) := by
  refine fnP' (k := 1) (sf := f_least_by) T.F_least_by sc_least_by (by decide) rfl fun cdv A outer s H E hr => ?_
  have pX : Passes (L2.CX P w) (cxOf (L2.CX P w) P w K mg base N_least_by "least_by" (defScope st_least_by) (fa 3) cdv A outer s H E) E := passes_call (takes_of rfl rfl rfl rfl) fun _ _ _ _ h => h
  exact ⟨_, (pss_cons (ps_set (i := 2) sc_least_by.nd rfl (by first | exact Or.inl rfl | exact Or.inr rfl) (pe_op o_mul (pe_lst (pa_cons pe_non pa_nil)) (pv 1)))
    (pss_cons (ps_asg pe_int (pg_sub (pv 2) pe_int set_list))
    (pss_cons (ps_for (passes_of rfl) rfl (pi_seq (pv 0)) (pg_name (i := 3) sc_least_by.nd rfl (by first | exact Or.inl rfl | exact Or.inr rfl)) (pss_one (ps_for (passes_of rfl) rfl (pi_range1 (by rfl) T.z_range (pa_cons (pe_call (ok_divisor_of T) (hr.mono (by decide)) (by rfl) T.m_divisor_of T.F_divisor_of.kp T.b_divisor_of .nil pX (pa_cons (pv 3) (pa_cons (pv 1) pa_nil))) pa_nil)) (pg_name (i := 4) sc_least_by.nd rfl (by first | exact Or.inl rfl | exact Or.inr rfl)) (pss_cons (ps_par (by rfl) sc_least_by.nd rfl rfl (by decide) rfl rfl (pa_cons (pv 4) (pa_cons pe_int pa_nil)) (by rfl))
    (pss_one (ps_while (passes_of rfl) (pt_cmpR op_lt (pv 6) (pe_op op_fdiv (pe_op o_mul pe_int (pv 1)) (pe_call (ok_divisor_of T) (hr.mono (by decide)) (by rfl) T.m_divisor_of T.F_divisor_of.kp T.b_divisor_of .nil pX (pa_cons (pv 3) (pa_cons (pv 1) pa_nil)))) (nomark _)) (pss_cons (ps_set (i := 7) sc_least_by.nd rfl (by first | exact Or.inl rfl | exact Or.inr rfl) (pe_op op_mod (pe_op o_add (pv 5) (pv 3)) (pv 1)))
    (pss_cons (ps_if (PW.pt (pw_and (pt_cmpR o_isnot (pe_ix ix_seq (pv 2) (pv 5) (fun _ _ => rfl)) pe_non (nomark _)) (pw_and1 (PW.pt (pw_or (pt_cmpR o_is (pe_ix ix_seq (pv 2) (pv 7) (fun _ _ => rfl)) pe_non (nomark _)) (pw_or1 (pt_cmpR op_lt (pe_op o_add (pe_ix ix_seq (pv 2) (pv 5) (fun _ _ => rfl)) (pv 3)) (pe_ix ix_seq (pv 2) (pv 7) (fun _ _ => rfl)) (nomark _)))))))) (pss_one (ps_asg (pe_op o_add (pe_ix ix_seq (pv 2) (pv 5) (fun _ _ => rfl)) (pv 3)) (pg_sub (pv 2) (pv 7) set_list))) pss_nil)
    (pss_one (ps_par (by rfl) sc_least_by.nd rfl rfl (by decide) rfl rfl (pa_cons (pv 7) (pa_cons (pe_op o_add (pv 6) pe_int) pa_nil)) (by rfl)))))))))))
    (pss_one (ps_ret (pv 2)))))),
    (sim_seq (sim_asgN 2 (simN_op n_mul (sim_lst (sim_cons sim_non sim_nil)) (sim_var 1)))
    (sim_seq (sim_setIx 2 (sim_int 0) (sim_int 0))
    (sim_seq (sim_for (simI_seq (sim_var 0)) (simG_name 3) (sim_for (simI_rng1 (sim_cons (sim_callP (fun _ _ h => h) (sim_cons (sim_var 3) (sim_cons (sim_var 1) sim_nil))) sim_nil)) (simG_name 4) (sim_seq (sim_par 5 6 (sim_cons (sim_var 4) (sim_cons (sim_int 0) sim_nil)))
    (sim_while FUEL (sim_test (sim_op s_lt (sim_var 6) (sim_op s_fdiv (sim_op s_mul (sim_int 2) (sim_var 1)) (sim_callP (fun _ _ h => h) (sim_cons (sim_var 3) (sim_cons (sim_var 1) sim_nil)))))) (sim_seq (sim_asg 7 (sim_op s_mod (sim_op s_add (sim_var 5) (sim_var 3)) (sim_var 1)))
    (sim_seq (sim_ifS (sim_and (sim_test (sim_op s_isnot (sim_ixOw 2 (sim_var 5)) sim_non)) (sim_or (sim_test (sim_op s_is (sim_ixOw 2 (sim_var 7)) sim_non)) (sim_test (sim_op s_lt (sim_op s_add (sim_ixOw 2 (sim_var 5)) (sim_var 3)) (sim_ixOw 2 (sim_var 7)))))) (sim_setIx 2 (sim_var 7) (sim_op s_add (sim_ixOw 2 (sim_var 5)) (sim_var 3))) sim_next)
    (sim_par 5 6 (sim_cons (sim_var 7) (sim_cons (sim_op s_add (sim_var 6) (sim_int 1)) sim_nil)))))))))
    (sim_frz 2 (sim_ret (sim_var 2))))))⟩
/-- reduced -/
theorem ok_reduced (T : Txt K mg fa fd ca tk) : FnOk P w K mg base (L2.CX P w) 3 (fa 4) (fd 4) ["numbers"] (spP K mg g_reduced) := by
  refine fnP' (k := 2) (sf := f_reduced) T.F_reduced sc_reduced (by decide) rfl fun cdv A outer s H E hr => ?_
  have pX : Passes (L2.CX P w) (cxOf (L2.CX P w) P w K mg base N_reduced "reduced" (defScope st_reduced) (fa 4) cdv A outer s H E) E := passes_call (takes_of rfl rfl rfl rfl) fun _ _ _ _ h => h
  exact ⟨_, (pss_cons (ps_set (i := 1) sc_reduced.nd rfl (by first | exact Or.inl rfl | exact Or.inr rfl) (pe_callB (cr_sortSetU rfl) (by rfl) T.z_sorted (by decide +kernel) (pa_cons (pe_callTy (cr_setU rfl) (by rfl) T.z_set (by decide +kernel) (pa_cons (pv 0) pa_nil)) pa_nil)))
    (pss_cons (ps_set (i := 2) sc_reduced.nd rfl (by first | exact Or.inl rfl | exact Or.inr rfl) (pe_ix ix_seq (pv 1) pe_int (fun _ _ => rfl)))
    (pss_cons (ps_par (by rfl) sc_reduced.nd rfl rfl (by decide) rfl rfl (pa_cons (pe_lst (pa_cons (pv 2) pa_nil)) (pa_cons (pe_call (ok_least_by T) (hr.mono (by decide)) (by rfl) T.m_least_by T.F_least_by.kp T.b_least_by .nil pX (pa_cons (pe_lst pa_nil) (pa_cons (pv 2) pa_nil))) pa_nil)) (by rfl))
    (pss_cons (ps_for (passes_of rfl) rfl (pi_seq (pe_slice o_sl (pv 1) (po_some pe_int) po_none)) (pg_name (i := 5) sc_reduced.nd rfl (by first | exact Or.inl rfl | exact Or.inr rfl)) (pss_one (ps_if (PW.pt (pw_or (pt_cmpR o_is (pe_ix ix_seq (pv 4) (pe_op op_mod (pv 5) (pv 2)) (fun _ _ => rfl)) pe_non (nomark _)) (pw_or1 (pt_cmpR op_gt (pe_ix ix_seq (pv 4) (pe_op op_mod (pv 5) (pv 2)) (fun _ _ => rfl)) (pv 5) (nomark _))))) (pss_cons (ps_expr (pe_bm PySem.F.plainAttrs_list PySem.F.slot_list_append PySem.F.type_list_append mt_append (pv 3) (pa_cons (pv 5) pa_nil)))
    (pss_one (ps_set (i := 4) sc_reduced.nd rfl (by first | exact Or.inl rfl | exact Or.inr rfl) (pe_call (ok_least_by T) (hr.mono (by decide)) (by rfl) T.m_least_by T.F_least_by.kp T.b_least_by .nil pX (pa_cons (pe_slice o_sl (pv 3) (po_some pe_int) po_none) (pa_cons (pv 2) pa_nil)))))) pss_nil)))
    (pss_one (ps_ret (pe_callTy call_tuple_of (by rfl) T.z_tuple (by decide +kernel) (pa_cons (pv 3) pa_nil)))))))),
    (sim_seq (sim_asg 1 (sim_sortSet (sim_var 0)))
    (sim_seq (sim_asg 2 (sim_op s_ix (sim_var 1) (sim_int 0)))
    (sim_seq (sim_parN 3 4 (by decide) (simN_lst (sim_cons (sim_var 2) sim_nil)) (sim_callP (fun _ _ h => h) (sim_cons (sim_lst sim_nil) (sim_cons (sim_var 2) sim_nil))))
    (sim_seq (sim_for (simI_seq (sim_sl s_sl (sim_var 1) (sim_part (sim_int 1)) sim_noPart)) (simG_name 5) (sim_ifS (sim_or (sim_test (sim_op s_is (sim_op s_ix (sim_var 4) (sim_op s_mod (sim_var 5) (sim_var 2))) sim_non)) (sim_test (sim_op s_gt (sim_op s_ix (sim_var 4) (sim_op s_mod (sim_var 5) (sim_var 2))) (sim_var 5)))) (sim_seq (sim_app 3 (sim_var 5))
    (sim_asg 4 (sim_callP (fun _ _ h => h) (sim_cons (sim_slOw 3 (sim_part (sim_int 1)) sim_noPart) (sim_cons (sim_var 2) sim_nil))))) sim_next))
    (sim_frz 3 (sim_ret (sim_cb s_tuple (sim_cons (sim_var 3) sim_nil))))))))⟩
/-- is_semigroup -/
theorem ok_is_semigroup (T : Txt K mg fa fd ca tk) : FnOk P w K mg base (L2.CX P w) 4 (fa 5) (fd 5) ["value"] (spP K mg g_is_semigroup) := by
  refine fnP' (k := 3) (sf := f_is_semigroup) T.F_is_semigroup sc_is_semigroup (by decide) rfl fun cdv A outer s H E hr => ?_
  have pX : Passes (L2.CX P w) (cxOf (L2.CX P w) P w K mg base N_is_semigroup "is_semigroup" (defScope st_is_semigroup) (fa 5) cdv A outer s H E) E := passes_call (takes_of rfl rfl rfl rfl) fun _ _ _ _ h => h
  exact ⟨_, (pss_cons (ps_if (PW.pt (pw_or (pt_not (pt_val (pe_callB call_isi (by rfl) T.z_isinstance (by decide +kernel) (pa_cons (pv 0) (pa_cons (pe_bltn (v := .ty "tuple") (by rfl) T.z_tuple (by decide +kernel) rfl) pa_nil))))) (pw_or1 (pt_not (pt_chain op_le op_le pe_int (pe_callB call_len (by rfl) T.z_len PySem.boot_len (pa_cons (pv 0) pa_nil)) (pe_glob (v := .int 12) (by rfl) T.k_COUNT ⟨_, rfl⟩)))))) (pss_one (ps_ret pe_bl)) pss_nil)
    (pss_cons (ps_if (PW.pt (pw_or (pt_not (pt_val (pe_callB (cr_all rfl) (by rfl) T.z_all (by decide +kernel) (pa_cons (pe_lc (own := [("one", 1)]) rfl sc_is_semigroup.nd (pi_seq (pv 0)) (blkOk_by (own := [("one", 1)]) (N := N_is_semigroup) (sc := defScope st_is_semigroup) (by decide +kernel)) (fun _ _ _ _ _ => (pg_name (i := 1) sc_is_semigroup.nd rfl (by first | exact Or.inl rfl | exact Or.inr rfl))) (fun _ _ _ _ _ => pts_nil) (fun _ _ _ _ _ => (pe_call (ok_is_integer T) (hr.mono (by decide)) (by rfl) T.m_is_integer T.F_is_integer.kp T.b_is_integer .nil passL (pa_cons (pv 1) (pa_cons pe_int (pa_cons (pe_glob (v := .int 99) (by rfl) T.k_LARGEST ⟨_, rfl⟩) pa_nil)))))) pa_nil)))) (pw_or1 (pt_cmpR (op_neD hr.units) (pe_call (ok_common_divisor T) (hr.mono (by decide)) (by rfl) T.m_common_divisor T.F_common_divisor.kp T.b_common_divisor .nil pX (pa_cons (pv 0) pa_nil)) pe_int (nomark _))))) (pss_one (ps_ret pe_bl)) pss_nil)
    (pss_one (ps_ret (pe_cmpR (op_eqD hr.units) (pe_call (ok_reduced T) (hr.mono (by decide)) (by rfl) T.m_reduced T.F_reduced.kp T.b_reduced .nil pX (pa_cons (pv 0) pa_nil)) (pv 0) (nomark _)))))),
    (sim_seq (sim_ifS (sim_or (sim_not (sim_B (sim_isi "tuple" (sim_var 0)))) (sim_not (sim_test (sim_chain s_le s_le (sim_int 1) (sim_cb s_len (sim_cons (sim_var 0) sim_nil)) (sim_int 12))))) (sim_ret (sim_bl false)) sim_next)
    (sim_seq (sim_ifS (sim_or (sim_not (sim_B (sim_cb s_all (sim_cons (sim_new (simN_lc (simI_seq (sim_var 0)) (simG_name 1) sim_yes (sim_callP (fun _ _ h => False.elim h) (sim_cons (sim_var 1) (sim_cons (sim_int 1) (sim_cons (sim_int 99) sim_nil)))))) sim_nil)))) (sim_test (sim_op s_ne (sim_callP (fun _ _ h => h) (sim_cons (sim_var 0) sim_nil)) (sim_int 1)))) (sim_ret (sim_bl false)) sim_next)
    (sim_ret (sim_op s_eq (sim_callP (fun _ _ h => h) (sim_cons (sim_var 0) sim_nil)) (sim_var 0)))))⟩
/-- check_semigroup -/
theorem ok_check_semigroup (T : Txt K mg fa fd ca tk) : FnOk P w K mg base (L2.CX P w) 5 (fa 6) (fd 6) ["semigroup"] (spP K mg g_check_semigroup) := by
  refine fnP' (k := 4) (sf := f_check_semigroup) T.F_check_semigroup sc_check_semigroup (by decide) rfl fun cdv A outer s H E hr => ?_
  have pX : Passes (L2.CX P w) (cxOf (L2.CX P w) P w K mg base N_check_semigroup "check_semigroup" (defScope st_check_semigroup) (fa 6) cdv A outer s H E) E := passes_call (takes_of rfl rfl rfl rfl) fun _ _ _ _ h => h
  exact ⟨_, (pss_one (ps_if (pt_not (pt_val (pe_call (ok_is_semigroup T) (hr.mono (by decide)) (by rfl) T.m_is_semigroup T.F_is_semigroup.kp T.b_is_semigroup .nil pX (pa_cons (pv 0) pa_nil)))) (pss_one (ps_raise rfl (takes_of rfl rfl rfl rfl) (pmk_own PySem.F.excBase_ValueError T.e_InvalidSemigroup.x T.e_InvalidSemigroup.g T.e_InvalidSemigroup.k (raises_own T.e_InvalidSemigroup.b T.e_InvalidSemigroup.t) rfl))) pss_nil)),
    (sim_ifS (sim_not (sim_B (sim_callP (fun _ _ h => h) (sim_cons (sim_var 0) sim_nil)))) (sim_raise 0 T.e_InvalidSemigroup.g) sim_next)⟩
/-- limited -/
theorem ok_limited (T : Txt K mg fa fd ca tk) : FnOk P w K mg base (L2.CX P w) 4 (fa 7) (fd 7) ["generators"] (spP K mg g_limited) := by
  refine fnP' (k := 3) (sf := f_limited) T.F_limited sc_limited (by decide) rfl fun cdv A outer s H E hr => ?_
  have pX : Passes (L2.CX P w) (cxOf (L2.CX P w) P w K mg base N_limited "limited" (defScope st_limited) (fa 7) cdv A outer s H E) E := passes_call (takes_of rfl rfl rfl rfl) fun _ _ _ _ h => h
  exact ⟨_, (pss_cons (ps_set (i := 1) sc_limited.nd rfl (by first | exact Or.inl rfl | exact Or.inr rfl) (pe_call (ok_reduced T) (hr.mono (by decide)) (by rfl) T.m_reduced T.F_reduced.kp T.b_reduced .nil pX (pa_cons (pv 0) pa_nil)))
    (pss_cons (ps_if (PW.pt (pw_or (pt_cmpR op_gt (pe_callB call_len (by rfl) T.z_len PySem.boot_len (pa_cons (pv 1) pa_nil)) (pe_glob (v := .int 12) (by rfl) T.k_COUNT ⟨_, rfl⟩) (nomark _)) (pw_or1 (pt_cmpR op_gt (pe_ix ix_seq (pv 1) (pe_un un_neg pe_int) (fun _ _ => rfl)) (pe_glob (v := .int 99) (by rfl) T.k_LARGEST ⟨_, rfl⟩) (nomark _))))) (pss_one (ps_raise rfl (takes_of rfl rfl rfl rfl) (pmk_own PySem.F.excBase_ValueError T.e_TooLarge.x T.e_TooLarge.g T.e_TooLarge.k (raises_own T.e_TooLarge.b T.e_TooLarge.t) rfl))) pss_nil)
    (pss_one (ps_ret (pv 1))))),
    (sim_seq (sim_asg 1 (sim_callP (fun _ _ h => h) (sim_cons (sim_var 0) sim_nil)))
    (sim_seq (sim_ifS (sim_or (sim_test (sim_op s_gt (sim_cb s_len (sim_cons (sim_var 1) sim_nil)) (sim_int 12))) (sim_test (sim_op s_gt (sim_op s_ix (sim_var 1) (sim_un s_neg (sim_int 1))) (sim_int 99)))) (sim_raise 10 T.e_TooLarge.g) sim_next)
    (sim_ret (sim_var 1))))⟩
/-- from_numbers -/
theorem ok_from_numbers (T : Txt K mg fa fd ca tk) : FnOk P w K mg base (L2.CX P w) 5 (fa 8) (fd 8) ["numbers"] (spP K mg g_from_numbers) := by
  refine fnP' (k := 4) (sf := f_from_numbers) T.F_from_numbers sc_from_numbers (by decide) rfl fun cdv A outer s H E hr => ?_
  have pX : Passes (L2.CX P w) (cxOf (L2.CX P w) P w K mg base N_from_numbers "from_numbers" (defScope st_from_numbers) (fa 8) cdv A outer s H E) E := passes_call (takes_of rfl rfl rfl rfl) fun _ _ _ _ h => h
  exact ⟨_, (pss_cons (ps_if (PW.pt (pw_or (pt_not (pt_val (pe_callB call_isi (by rfl) T.z_isinstance (by decide +kernel) (pa_cons (pv 0) (pa_cons (pe_bltn (v := .ty "list") (by rfl) T.z_list (by decide +kernel) rfl) pa_nil))))) (pw_or1 (pt_not (pt_chain op_le op_le pe_int (pe_callB call_len (by rfl) T.z_len PySem.boot_len (pa_cons (pv 0) pa_nil)) pe_int))))) (pss_one (ps_raise rfl (takes_of rfl rfl rfl rfl) (pmk_own PySem.F.excBase_ValueError T.e_InvalidNumbers.x T.e_InvalidNumbers.g T.e_InvalidNumbers.k (raises_own T.e_InvalidNumbers.b T.e_InvalidNumbers.t) rfl))) pss_nil)
    (pss_cons (ps_if (pt_not (pt_val (pe_callB (cr_all rfl) (by rfl) T.z_all (by decide +kernel) (pa_cons (pe_lc (own := [("one", 1)]) rfl sc_from_numbers.nd (pi_seq (pv 0)) (blkOk_by (own := [("one", 1)]) (N := N_from_numbers) (sc := defScope st_from_numbers) (by decide +kernel)) (fun _ _ _ _ _ => (pg_name (i := 1) sc_from_numbers.nd rfl (by first | exact Or.inl rfl | exact Or.inr rfl))) (fun _ _ _ _ _ => pts_nil) (fun _ _ _ _ _ => (pe_call (ok_is_integer T) (hr.mono (by decide)) (by rfl) T.m_is_integer T.F_is_integer.kp T.b_is_integer .nil passL (pa_cons (pv 1) (pa_cons pe_int (pa_cons (pe_glob (v := .int 99) (by rfl) T.k_LARGEST ⟨_, rfl⟩) pa_nil)))))) pa_nil)))) (pss_one (ps_raise rfl (takes_of rfl rfl rfl rfl) (pmk_own PySem.F.excBase_ValueError T.e_InvalidNumbers.x T.e_InvalidNumbers.g T.e_InvalidNumbers.k (raises_own T.e_InvalidNumbers.b T.e_InvalidNumbers.t) rfl))) pss_nil)
    (pss_cons (ps_if (pt_cmpR (op_neD hr.units) (pe_call (ok_common_divisor T) (hr.mono (by decide)) (by rfl) T.m_common_divisor T.F_common_divisor.kp T.b_common_divisor .nil pX (pa_cons (pv 0) pa_nil)) pe_int (nomark _)) (pss_one (ps_raise rfl (takes_of rfl rfl rfl rfl) (pmk_own PySem.F.excBase_ValueError T.e_NotCoprime.x T.e_NotCoprime.g T.e_NotCoprime.k (raises_own T.e_NotCoprime.b T.e_NotCoprime.t) rfl))) pss_nil)
    (pss_one (ps_ret (pe_call (ok_limited T) (hr.mono (by decide)) (by rfl) T.m_limited T.F_limited.kp T.b_limited .nil pX (pa_cons (pv 0) pa_nil))))))),
    (sim_seq (sim_ifS (sim_or (sim_not (sim_B (sim_isi "list" (sim_var 0)))) (sim_not (sim_test (sim_chain s_le s_le (sim_int 1) (sim_cb s_len (sim_cons (sim_var 0) sim_nil)) (sim_int 40))))) (sim_raise 2 T.e_InvalidNumbers.g) sim_next)
    (sim_seq (sim_ifS (sim_not (sim_B (sim_cb s_all (sim_cons (sim_new (simN_lc (simI_seq (sim_var 0)) (simG_name 1) sim_yes (sim_callP (fun _ _ h => False.elim h) (sim_cons (sim_var 1) (sim_cons (sim_int 1) (sim_cons (sim_int 99) sim_nil)))))) sim_nil)))) (sim_raise 2 T.e_InvalidNumbers.g) sim_next)
    (sim_seq (sim_ifS (sim_test (sim_op s_ne (sim_callP (fun _ _ h => h) (sim_cons (sim_var 0) sim_nil)) (sim_int 1))) (sim_raise 6 T.e_NotCoprime.g) sim_next)
    (sim_ret (sim_callP (fun _ _ h => h) (sim_cons (sim_var 0) sim_nil))))))⟩
/-- gap_list -/
theorem ok_gap_list (T : Txt K mg fa fd ca tk) : FnOk P w K mg base (L2.CX P w) 3 (fa 9) (fd 9) ["semigroup"] (spP K mg g_gap_list) := by
  refine fnP' (k := 2) (sf := f_gap_list) T.F_gap_list sc_gap_list (by decide) rfl fun cdv A outer s H E hr => ?_
  have pX : Passes (L2.CX P w) (cxOf (L2.CX P w) P w K mg base N_gap_list "gap_list" (defScope st_gap_list) (fa 9) cdv A outer s H E) E := passes_call (takes_of rfl rfl rfl rfl) fun _ _ _ _ h => h
  exact ⟨_, (pss_cons (ps_set (i := 1) sc_gap_list.nd rfl (by first | exact Or.inl rfl | exact Or.inr rfl) (pe_ix ix_seq (pv 0) pe_int (fun _ _ => rfl)))
    (pss_cons (ps_set (i := 2) sc_gap_list.nd rfl (by first | exact Or.inl rfl | exact Or.inr rfl) (pe_lst pa_nil))
    (pss_cons (ps_for (passes_of rfl) rfl (pi_enumU (by rfl) T.z_enumerate (pa_cons (pe_call (ok_least_by T) (hr.mono (by decide)) (by rfl) T.m_least_by T.F_least_by.kp T.b_least_by .nil pX (pa_cons (pv 0) (pa_cons (pv 1) pa_nil))) pa_nil)) (pg_tup rfl (pgs_cons (pg_name (i := 3) sc_gap_list.nd rfl (by first | exact Or.inl rfl | exact Or.inr rfl)) (pgs_cons (pg_name (i := 4) sc_gap_list.nd rfl (by first | exact Or.inl rfl | exact Or.inr rfl)) pgs_nil))) (pss_one (ps_expr (pe_bm PySem.F.plainAttrs_list PySem.F.slot_list_extend PySem.F.type_list_extend mt_extend (pv 2) (pa_cons (pe_listR3 rfl (by rfl) T.z_list (by rfl) T.z_range (pa_cons (pv 3) (pa_cons (pv 4) (pa_cons (pv 1) pa_nil)))) pa_nil)))))
    (pss_one (ps_ret (pe_callB cr_sortedI (by rfl) T.z_sorted (by decide +kernel) (pa_cons (pv 2) pa_nil))))))),
    (sim_seq (sim_asg 1 (sim_op s_ix (sim_var 0) (sim_int 0)))
    (sim_seq (sim_asgN 2 (simN_lst sim_nil))
    (sim_seq (sim_for (simI_enumU (sim_cons (sim_callP (fun _ _ h => h) (sim_cons (sim_var 0) (sim_cons (sim_var 1) sim_nil))) sim_nil)) (simG_tup _ [3, 4]) (sim_ext 2 (sim_R3 (sim_cons (sim_var 3) (sim_cons (sim_var 4) (sim_cons (sim_var 1) sim_nil))))))
    (sim_frz 2 (sim_ret (sim_cb s_sorted (sim_cons (sim_var 2) sim_nil)))))))⟩
/-- greatest_of -/
theorem ok_greatest_of (T : Txt K mg fa fd ca tk) : FnOk P w K mg base (L2.CX P w) 3 (fa 10) (fd 10) ["semigroup"] (spP K mg g_greatest_of) := by
  refine fnP' (k := 2) (sf := f_greatest_of) T.F_greatest_of sc_greatest_of (by decide) rfl fun cdv A outer s H E hr => ?_
  have pX : Passes (L2.CX P w) (cxOf (L2.CX P w) P w K mg base N_greatest_of "greatest_of" (defScope st_greatest_of) (fa 10) cdv A outer s H E) E := passes_call (takes_of rfl rfl rfl rfl) fun _ _ _ _ h => h
  exact ⟨_, (pss_one (ps_ret (pe_op op_sub (pe_callB (o_max rfl) (by rfl) T.z_max (by decide +kernel) (pa_cons (pe_call (ok_least_by T) (hr.mono (by decide)) (by rfl) T.m_least_by T.F_least_by.kp T.b_least_by .nil pX (pa_cons (pv 0) (pa_cons (pe_ix ix_seq (pv 0) pe_int (fun _ _ => rfl)) pa_nil))) pa_nil)) (pe_ix ix_seq (pv 0) pe_int (fun _ _ => rfl))))),
    (sim_ret (sim_op s_sub (sim_cb s_max (sim_cons (sim_callP (fun _ _ h => h) (sim_cons (sim_var 0) (sim_cons (sim_op s_ix (sim_var 0) (sim_int 0)) sim_nil))) sim_nil)) (sim_op s_ix (sim_var 0) (sim_int 0))))⟩
/-- genus -/
theorem ok_genus (T : Txt K mg fa fd ca tk) : FnOk P w K mg base (L2.CX P w) 6 (fa 11) (fd 11) ["semigroup"] (spP K mg g_genus) := by
  refine fnP' (k := 5) (sf := f_genus) T.F_genus sc_genus (by decide) rfl fun cdv A outer s H E hr => ?_
  have pX : Passes (L2.CX P w) (cxOf (L2.CX P w) P w K mg base N_genus "genus" (defScope st_genus) (fa 11) cdv A outer s H E) E := passes_call (takes_of rfl rfl rfl rfl) fun _ _ _ _ h => h
  exact ⟨_, (pss_cons (ps_expr (pe_call (ok_check_semigroup T) (hr.mono (by decide)) (by rfl) T.m_check_semigroup T.F_check_semigroup.kp T.b_check_semigroup .nil pX (pa_cons (pv 0) pa_nil)))
    (pss_one (ps_ret (pe_callB call_len (by rfl) T.z_len PySem.boot_len (pa_cons (pe_call (ok_gap_list T) (hr.mono (by decide)) (by rfl) T.m_gap_list T.F_gap_list.kp T.b_gap_list .nil pX (pa_cons (pv 0) pa_nil)) pa_nil))))),
    (sim_seq (sim_drop (sim_callP (fun _ _ h => h) (sim_cons (sim_var 0) sim_nil)))
    (sim_ret (sim_cb s_len (sim_cons (sim_callP (fun _ _ h => h) (sim_cons (sim_var 0) sim_nil)) sim_nil))))⟩
/-- greatest_gap -/
theorem ok_greatest_gap (T : Txt K mg fa fd ca tk) : FnOk P w K mg base (L2.CX P w) 6 (fa 12) (fd 12) ["semigroup"] (spP K mg g_greatest_gap) := by
  refine fnP' (k := 5) (sf := f_greatest_gap) T.F_greatest_gap sc_greatest_gap (by decide) rfl fun cdv A outer s H E hr => ?_
  have pX : Passes (L2.CX P w) (cxOf (L2.CX P w) P w K mg base N_greatest_gap "greatest_gap" (defScope st_greatest_gap) (fa 12) cdv A outer s H E) E := passes_call (takes_of rfl rfl rfl rfl) fun _ _ _ _ h => h
  exact ⟨_, (pss_cons (ps_expr (pe_call (ok_check_semigroup T) (hr.mono (by decide)) (by rfl) T.m_check_semigroup T.F_check_semigroup.kp T.b_check_semigroup .nil pX (pa_cons (pv 0) pa_nil)))
    (pss_one (ps_ret (pe_call (ok_greatest_of T) (hr.mono (by decide)) (by rfl) T.m_greatest_of T.F_greatest_of.kp T.b_greatest_of .nil pX (pa_cons (pv 0) pa_nil))))),
    (sim_seq (sim_drop (sim_callP (fun _ _ h => h) (sim_cons (sim_var 0) sim_nil)))
    (sim_ret (sim_callP (fun _ _ h => h) (sim_cons (sim_var 0) sim_nil))))⟩
/-- is_symmetric -/
theorem ok_is_symmetric (T : Txt K mg fa fd ca tk) : FnOk P w K mg base (L2.CX P w) 6 (fa 13) (fd 13) ["semigroup"] (spP K mg g_is_symmetric) := by
  refine fnP' (k := 5) (sf := f_is_symmetric) T.F_is_symmetric sc_is_symmetric (by decide) rfl fun cdv A outer s H E hr => ?_
  have pX : Passes (L2.CX P w) (cxOf (L2.CX P w) P w K mg base N_is_symmetric "is_symmetric" (defScope st_is_symmetric) (fa 13) cdv A outer s H E) E := passes_call (takes_of rfl rfl rfl rfl) fun _ _ _ _ h => h
  exact ⟨_, (pss_cons (ps_expr (pe_call (ok_check_semigroup T) (hr.mono (by decide)) (by rfl) T.m_check_semigroup T.F_check_semigroup.kp T.b_check_semigroup .nil pX (pa_cons (pv 0) pa_nil)))
    (pss_one (ps_ret (pe_cmpR (op_eqD hr.units) (pe_op o_mul pe_int (pe_callB call_len (by rfl) T.z_len PySem.boot_len (pa_cons (pe_call (ok_gap_list T) (hr.mono (by decide)) (by rfl) T.m_gap_list T.F_gap_list.kp T.b_gap_list .nil pX (pa_cons (pv 0) pa_nil)) pa_nil))) (pe_op o_add (pe_call (ok_greatest_of T) (hr.mono (by decide)) (by rfl) T.m_greatest_of T.F_greatest_of.kp T.b_greatest_of .nil pX (pa_cons (pv 0) pa_nil)) pe_int) (nomark _))))),
    (sim_seq (sim_drop (sim_callP (fun _ _ h => h) (sim_cons (sim_var 0) sim_nil)))
    (sim_ret (sim_op s_eq (sim_op s_mul (sim_int 2) (sim_cb s_len (sim_cons (sim_callP (fun _ _ h => h) (sim_cons (sim_var 0) sim_nil)) sim_nil))) (sim_op s_add (sim_callP (fun _ _ h => h) (sim_cons (sim_var 0) sim_nil)) (sim_int 1)))))⟩
/-- is_irreducible -/
theorem ok_is_irreducible (T : Txt K mg fa fd ca tk) : FnOk P w K mg base (L2.CX P w) 6 (fa 14) (fd 14) ["semigroup"] (spP K mg g_is_irreducible) := by
  refine fnP' (k := 5) (sf := f_is_irreducible) T.F_is_irreducible sc_is_irreducible (by decide) rfl fun cdv A outer s H E hr => ?_
  have pX : Passes (L2.CX P w) (cxOf (L2.CX P w) P w K mg base N_is_irreducible "is_irreducible" (defScope st_is_irreducible) (fa 14) cdv A outer s H E) E := passes_call (takes_of rfl rfl rfl rfl) fun _ _ _ _ h => h
  exact ⟨_, (pss_cons (ps_expr (pe_call (ok_check_semigroup T) (hr.mono (by decide)) (by rfl) T.m_check_semigroup T.F_check_semigroup.kp T.b_check_semigroup .nil pX (pa_cons (pv 0) pa_nil)))
    (pss_one (ps_ret (pe_cmpR (o_in hr.un65) (pe_op op_sub (pe_op o_mul pe_int (pe_callB call_len (by rfl) T.z_len PySem.boot_len (pa_cons (pe_call (ok_gap_list T) (hr.mono (by decide)) (by rfl) T.m_gap_list T.F_gap_list.kp T.b_gap_list .nil pX (pa_cons (pv 0) pa_nil)) pa_nil))) (pe_call (ok_greatest_of T) (hr.mono (by decide)) (by rfl) T.m_greatest_of T.F_greatest_of.kp T.b_greatest_of .nil pX (pa_cons (pv 0) pa_nil))) (pe_tup (pa_cons pe_int (pa_cons pe_int pa_nil))) (by rfl))))),
    (sim_seq (sim_drop (sim_callP (fun _ _ h => h) (sim_cons (sim_var 0) sim_nil)))
    (sim_ret (sim_op s_in (sim_op s_sub (sim_op s_mul (sim_int 2) (sim_cb s_len (sim_cons (sim_callP (fun _ _ h => h) (sim_cons (sim_var 0) sim_nil)) sim_nil))) (sim_callP (fun _ _ h => h) (sim_cons (sim_var 0) sim_nil))) (sim_tup (sim_cons (sim_int 1) (sim_cons (sim_int 2) sim_nil))))))⟩
/-- _law_cell_at -/
theorem ok__law_cell_at (T : Txt K mg fa fd ca tk) : FnOk P w K mg base (L2.CX P w) 1 (fa 15) (fd 15) ["script", "k"] (spP K mg g__law_cell_at) := by
  refine fnP' (k := 0) (sf := f__law_cell_at) T.F__law_cell_at sc__law_cell_at (by decide) rfl fun cdv A outer s H E hr => ?_
  exact ⟨_, (pss_cons (ps_if (pt_cmpR op_lt (pv 1) (pe_callB call_len (by rfl) T.z_len PySem.boot_len (pa_cons (pv 0) pa_nil)) (nomark _)) (pss_one (ps_ret (pe_ix ix_seq (pv 0) (pv 1) (fun _ _ => rfl)))) pss_nil)
    (pss_cons (ps_if (pt_cmpR (op_eqD hr.units) (pv 0) (pe_lst pa_nil) (nomark _)) (pss_one (ps_ret pe_int)) pss_nil)
    (pss_cons (ps_set (i := 2) sc__law_cell_at.nd rfl (by first | exact Or.inl rfl | exact Or.inr rfl) (pe_ix ix_seq (pv 0) (pe_op op_mod (pv 1) (pe_callB call_len (by rfl) T.z_len PySem.boot_len (pa_cons (pv 0) pa_nil))) (fun _ _ => rfl)))
    (pss_cons (ps_for (passes_of rfl) rfl (pi_range1 (by rfl) T.z_range (pa_cons (pe_callB (o_min rfl) (by rfl) T.z_min (by decide +kernel) (pa_cons (pe_op op_fdiv (pv 1) (pe_callB call_len (by rfl) T.z_len PySem.boot_len (pa_cons (pv 0) pa_nil))) (pa_cons pe_int pa_nil))) pa_nil)) (pg_name (i := 3) sc__law_cell_at.nd rfl (by first | exact Or.inl rfl | exact Or.inr rfl)) (pss_one (ps_set (i := 2) sc__law_cell_at.nd rfl (by first | exact Or.inl rfl | exact Or.inr rfl) (pe_op op_fdiv (pv 2) pe_int))))
    (pss_one (ps_ret (pe_op o_add (pe_op o_add (pe_op o_mul (pe_ix ix_seq (pv 0) (pe_op op_mod (pv 1) (pe_callB call_len (by rfl) T.z_len PySem.boot_len (pa_cons (pv 0) pa_nil))) (fun _ _ => rfl)) pe_int) (pv 1)) (pe_op o_mul (pv 2) pe_int)))))))),
    (sim_seq (sim_ifS (sim_test (sim_op s_lt (sim_var 1) (sim_cb s_len (sim_cons (sim_var 0) sim_nil)))) (sim_ret (sim_op s_ix (sim_var 0) (sim_var 1))) sim_next)
    (sim_seq (sim_ifS (sim_test (sim_op s_eq (sim_var 0) (sim_lst sim_nil))) (sim_ret (sim_int 0)) sim_next)
    (sim_seq (sim_asg 2 (sim_op s_ix (sim_var 0) (sim_op s_mod (sim_var 1) (sim_cb s_len (sim_cons (sim_var 0) sim_nil)))))
    (sim_seq (sim_for (simI_rng1 (sim_cons (sim_cb s_min (sim_cons (sim_op s_fdiv (sim_var 1) (sim_cb s_len (sim_cons (sim_var 0) sim_nil))) (sim_cons (sim_int 60) sim_nil))) sim_nil)) (simG_name 3) (sim_asg 2 (sim_op s_fdiv (sim_var 2) (sim_int 1000003))))
    (sim_ret (sim_op s_add (sim_op s_add (sim_op s_mul (sim_op s_ix (sim_var 0) (sim_op s_mod (sim_var 1) (sim_cb s_len (sim_cons (sim_var 0) sim_nil)))) (sim_int 31)) (sim_var 1)) (sim_op s_mul (sim_var 2) (sim_int 101))))))))⟩
/-- _law_mixed -/
theorem ok__law_mixed (T : Txt K mg fa fd ca tk) : FnOk P w K mg base (L2.CX P w) 2 (fa 16) (fd 16) ["script", "k", "many"] (spP K mg g__law_mixed) := by
  refine fnP' (k := 1) (sf := f__law_mixed) T.F__law_mixed sc__law_mixed (by decide) rfl fun cdv A outer s H E hr => ?_
  have pX : Passes (L2.CX P w) (cxOf (L2.CX P w) P w K mg base N__law_mixed "_law_mixed" (defScope st__law_mixed) (fa 16) cdv A outer s H E) E := passes_call (takes_of rfl rfl rfl rfl) fun _ _ _ _ h => h
  exact ⟨_, (pss_cons (ps_set (i := 3) sc__law_mixed.nd rfl (by first | exact Or.inl rfl | exact Or.inr rfl) (pe_op op_mod (pe_op o_add (pe_op o_add (pe_op o_mul (pe_call (ok__law_cell_at T) (hr.mono (by decide)) (by rfl) T.m__law_cell_at T.F__law_cell_at.kp T.b__law_cell_at .nil pX (pa_cons (pv 0) (pa_cons (pv 1) pa_nil))) pe_int) (pe_op o_mul pe_int (pv 1))) pe_int) pe_int))
    (pss_one (ps_ret (pe_op op_mod (pe_op op_mod (pe_op op_mod (pe_op op_pow (pv 3) pe_int) pe_int) pe_int) (pv 2))))),
    (sim_seq (sim_asg 3 (sim_op s_mod (sim_op s_add (sim_op s_add (sim_op s_mul (sim_callP (fun _ _ h => h) (sim_cons (sim_var 0) (sim_cons (sim_var 1) sim_nil))) (sim_int 1103515245)) (sim_op s_mul (sim_int 7919) (sim_var 1))) (sim_int 12345)) (sim_int 2147483647)))
    (sim_ret (sim_op s_mod (sim_op s_mod (sim_op s_mod (sim_op s_pow (sim_var 3) (sim_int 5)) (sim_int 2147483647)) (sim_int 999983)) (sim_var 2))))⟩
/-- _law_draw -/
theorem ok__law_draw (T : Txt K mg fa fd ca tk) : FnOk P w K mg base (L2.CX P w) 3 (fa 17) (fd 17) ["script", "town", "many"] (spT K mg g__law_draw) := by
  refine fnT' (k := 2) (sf := f__law_draw) T.F__law_draw sc__law_draw (by decide) rfl fun tp cdv A outer s H E hr => ?_
  have pX : Passes (L2.CX P w) (cxOf (L2.CX P w) P w K mg base N__law_draw "_law_draw" (defScope st__law_draw) (fa 17) cdv A outer s H E) E := passes_call (takes_of rfl rfl rfl rfl) fun _ _ _ _ h => h
  exact ⟨_, (pss_cons (ps_expr (pe_bm PySem.F.plainAttrs_list PySem.F.slot_list_append PySem.F.type_list_append mt_append (pv 1) (pa_cons pe_int pa_nil)))
    (pss_one (ps_ret (pe_call (ok__law_mixed T) (hr.mono (by decide)) (by rfl) T.m__law_mixed T.F__law_mixed.kp T.b__law_mixed .nil pX (pa_cons (pv 0) (pa_cons (pe_callB call_len (by rfl) T.z_len PySem.boot_len (pa_cons (pv 1) pa_nil)) (pa_cons (pv 2) pa_nil))))))),
    (sim_seq (sim_tick 1)
    (sim_ret (sim_callP (fun _ _ h => h) (sim_cons (sim_var 0) (sim_cons (sim_lenOw 1) (sim_cons (sim_var 2) sim_nil))))))⟩
/-- _law_same_truth -/
theorem ok__law_same_truth (T : Txt K mg fa fd ca tk) : FnOk P w K mg base (L2.CX P w) 1 (fa 18) (fd 18) ["got", "due"] (spP K mg g__law_same_truth) := by
  refine fnP' (k := 0) (sf := f__law_same_truth) T.F__law_same_truth sc__law_same_truth (by decide) rfl fun cdv A outer s H E hr => ?_
  exact ⟨_, (pss_one (ps_ret (pe_and (pe_callB call_isi (by rfl) T.z_isinstance (by decide +kernel) (pa_cons (pv 0) (pa_cons (pe_bltn (v := .ty "bool") (by rfl) T.z_bool (by decide +kernel) rfl) pa_nil))) (pe_one (pe_cmpR (op_eqD hr.units) (pv 0) (pv 1) (nomark _)))))),
    (sim_ret (sim_andV (sim_isi "bool" (sim_var 0)) (sim_op s_eq (sim_var 0) (sim_var 1))))⟩
/-- _law_gcd -/
theorem ok__law_gcd (T : Txt K mg fa fd ca tk) : FnOk P w K mg base (L2.CX P w) 1 (fa 19) (fd 19) ["some"] (spP K mg g__law_gcd) := by
  refine fnP' (k := 0) (sf := f__law_gcd) T.F__law_gcd sc__law_gcd (by decide) rfl fun cdv A outer s H E hr => ?_
  exact ⟨_, (pss_cons (ps_set (i := 1) sc__law_gcd.nd rfl (by first | exact Or.inl rfl | exact Or.inr rfl) pe_int)
    (pss_cons (ps_for (passes_of rfl) rfl (pi_seq (pv 0)) (pg_name (i := 2) sc__law_gcd.nd rfl (by first | exact Or.inl rfl | exact Or.inr rfl)) (pss_cons (ps_while (passes_of rfl) (pt_cmpR op_gt (pv 1) pe_int (nomark _)) (pss_one (ps_par (by rfl) sc__law_gcd.nd rfl rfl (by decide) rfl rfl (pa_cons (pv 1) (pa_cons (pe_op op_mod (pv 2) (pv 1)) pa_nil)) (by rfl))))
    (pss_one (ps_set (i := 1) sc__law_gcd.nd rfl (by first | exact Or.inl rfl | exact Or.inr rfl) (pv 2)))))
    (pss_one (ps_ret (pv 1))))),
    (sim_seq (sim_asg 1 (sim_int 0))
    (sim_seq (sim_for (simI_seq (sim_var 0)) (simG_name 2) (sim_seq (sim_while FUEL (sim_test (sim_op s_gt (sim_var 1) (sim_int 0))) (sim_par 2 1 (sim_cons (sim_var 1) (sim_cons (sim_op s_mod (sim_var 2) (sim_var 1)) sim_nil))))
    (sim_asg 1 (sim_var 2))))
    (sim_ret (sim_var 1))))⟩
/-- _law_sieve -/
theorem ok__law_sieve (T : Txt K mg fa fd ca tk) : FnOk P w K mg base (L2.CX P w) 1 (fa 20) (fd 20) ["some", "top"] (spP K mg g__law_sieve) := by
  refine fnP' (k := 0) (sf := f__law_sieve) T.F__law_sieve sc__law_sieve (by decide) rfl fun cdv A outer s H E hr => ?_
  exact ⟨_, (pss_cons (ps_set (i := 2) sc__law_sieve.nd rfl (by first | exact Or.inl rfl | exact Or.inr rfl) (pe_lst (pa_cons pe_bl pa_nil)))
    (pss_cons (ps_for (passes_of rfl) rfl (pi_range2 (by rfl) T.z_range (pa_cons pe_int (pa_cons (pe_op o_add (pv 1) pe_int) pa_nil))) (pg_name (i := 3) sc__law_sieve.nd rfl (by first | exact Or.inl rfl | exact Or.inr rfl)) (pss_one (ps_expr (pe_bm PySem.F.plainAttrs_list PySem.F.slot_list_append PySem.F.type_list_append mt_append (pv 2) (pa_cons (pe_cmpR (o_in hr.un65) pe_bl (pe_lc (own := [("one", 4)]) rfl sc__law_sieve.nd (pi_seq (pv 0)) (blkOk_by (own := [("one", 4)]) (N := N__law_sieve) (sc := defScope st__law_sieve) (by decide +kernel)) (fun _ _ _ _ _ => (pg_name (i := 4) sc__law_sieve.nd rfl (by first | exact Or.inl rfl | exact Or.inr rfl))) (fun _ _ _ _ _ => pts_nil) (fun _ _ _ _ _ => (pe_and (pe_cmpR op_ge (pv 3) (pv 4) (nomark _)) (pe_one (pe_ix (ixSeqK (K := K) rfl) (pv 2) (pe_op op_sub (pv 3) (pv 4)) (fun _ _ => rfl)))))) (by rfl)) pa_nil)))))
    (pss_one (ps_ret (pv 2))))),
    (sim_seq (sim_asgN 2 (simN_lst (sim_cons (sim_bl true) sim_nil)))
    (sim_seq (sim_for (simI_rng2 (sim_cons (sim_int 1) (sim_cons (sim_op s_add (sim_var 1) (sim_int 1)) sim_nil))) (simG_name 3) (sim_app 2 (sim_op s_in (sim_bl true) (sim_new (simN_lc (simI_seq (sim_var 0)) (simG_name 4) sim_yes (sim_andV (sim_op s_ge (sim_var 3) (sim_var 4)) (sim_ixOw 2 (sim_op s_sub (sim_var 3) (sim_var 4)))))))))
    (sim_frz 2 (sim_ret (sim_var 2)))))⟩
/-- _law_holes -/
theorem ok__law_holes (T : Txt K mg fa fd ca tk) : FnOk P w K mg base (L2.CX P w) 2 (fa 21) (fd 21) ["some"] (spP K mg g__law_holes) := by
  refine fnP' (k := 1) (sf := f__law_holes) T.F__law_holes sc__law_holes (by decide) rfl fun cdv A outer s H E hr => ?_
  have pX : Passes (L2.CX P w) (cxOf (L2.CX P w) P w K mg base N__law_holes "_law_holes" (defScope st__law_holes) (fa 21) cdv A outer s H E) E := passes_call (takes_of rfl rfl rfl rfl) fun _ _ _ _ h => h
  exact ⟨_, (pss_cons (ps_set (i := 1) sc__law_holes.nd rfl (by first | exact Or.inl rfl | exact Or.inr rfl) pe_int)
    (pss_one (ps_while (passes_of rfl) (pt_val pe_bl) (pss_cons (ps_set (i := 2) sc__law_holes.nd rfl (by first | exact Or.inl rfl | exact Or.inr rfl) (pe_call (ok__law_sieve T) (hr.mono (by decide)) (by rfl) T.m__law_sieve T.F__law_sieve.kp T.b__law_sieve .nil pX (pa_cons (pv 0) (pa_cons (pv 1) pa_nil))))
    (pss_cons (ps_set (i := 3) sc__law_holes.nd rfl (by first | exact Or.inl rfl | exact Or.inr rfl) pe_int)
    (pss_cons (ps_for (passes_of rfl) rfl (pi_range1 (by rfl) T.z_range (pa_cons (pe_op o_add (pv 1) pe_int) pa_nil)) (pg_name (i := 4) sc__law_holes.nd rfl (by first | exact Or.inl rfl | exact Or.inr rfl)) (pss_cons (ps_set (i := 3) sc__law_holes.nd rfl (by first | exact Or.inl rfl | exact Or.inr rfl) (pe_ifExp (pt_val (pe_ix ix_seq (pv 2) (pv 4) (fun _ _ => rfl))) (pe_op o_add (pv 3) pe_int) pe_int))
    (pss_one (ps_if (pt_cmpR (op_eqD hr.units) (pv 3) (pe_callB (o_min rfl) (by rfl) T.z_min (by decide +kernel) (pa_cons (pv 0) pa_nil)) (nomark _)) (pss_one (ps_ret (pe_lc (own := [("one", 5)]) rfl sc__law_holes.nd (pi_range1 (by rfl) T.z_range (pa_cons (pv 4) pa_nil)) (blkOk_by (own := [("one", 5)]) (N := N__law_holes) (sc := defScope st__law_holes) (by decide +kernel)) (fun _ _ _ _ _ => (pg_name (i := 5) sc__law_holes.nd rfl (by first | exact Or.inl rfl | exact Or.inr rfl))) (fun _ _ _ _ _ => (pts_one (pt_not (pt_val (pe_ix (ixSeqK (K := K) rfl) (pv 2) (pv 5) (fun _ _ => rfl)))))) (fun _ _ _ _ _ => (pv 5))))) pss_nil))))
    (pss_one (ps_set (i := 1) sc__law_holes.nd rfl (by first | exact Or.inl rfl | exact Or.inr rfl) (pe_op o_mul pe_int (pv 1)))))))))),
    (sim_seq (sim_asg 1 (sim_int 64))
    (sim_while FUEL (sim_B (sim_bl true)) (sim_seq (sim_asg 2 (sim_callP (fun _ _ h => h) (sim_cons (sim_var 0) (sim_cons (sim_var 1) sim_nil))))
    (sim_seq (sim_asg 3 (sim_int 0))
    (sim_seq (sim_for (simI_rng1 (sim_cons (sim_op s_add (sim_var 1) (sim_int 1)) sim_nil)) (simG_name 4) (sim_seq (sim_asg 3 (sim_if (sim_B (sim_op s_ix (sim_var 2) (sim_var 4))) (sim_op s_add (sim_var 3) (sim_int 1)) (sim_int 0)))
    (sim_ifS (sim_test (sim_op s_eq (sim_var 3) (sim_cb s_min (sim_cons (sim_var 0) sim_nil)))) (sim_ret (sim_new (simN_lc (simI_rng1 (sim_cons (sim_var 4) sim_nil)) (simG_name 5) (sim_not (sim_B (sim_op s_ix (sim_var 2) (sim_var 5)))) (sim_var 5)))) sim_next)))
    (sim_asg 1 (sim_op s_mul (sim_int 2) (sim_var 1))))))))⟩
/-- _law_least_set -/
theorem ok__law_least_set (T : Txt K mg fa fd ca tk) : FnOk P w K mg base (L2.CX P w) 2 (fa 22) (fd 22) ["some"] (spP K mg g__law_least_set) := by
  refine fnP' (k := 1) (sf := f__law_least_set) T.F__law_least_set sc__law_least_set (by decide) rfl fun cdv A outer s H E hr => ?_
  have pX : Passes (L2.CX P w) (cxOf (L2.CX P w) P w K mg base N__law_least_set "_law_least_set" (defScope st__law_least_set) (fa 22) cdv A outer s H E) E := passes_call (takes_of rfl rfl rfl rfl) fun _ _ _ _ h => h
  exact ⟨_, (pss_cons (ps_set (i := 1) sc__law_least_set.nd rfl (by first | exact Or.inl rfl | exact Or.inr rfl) (pe_lst pa_nil))
    (pss_cons (ps_for (passes_of rfl) rfl (pi_seq (pe_callB (cr_sortSetU rfl) (by rfl) T.z_sorted (by decide +kernel) (pa_cons (pe_callTy (cr_setU rfl) (by rfl) T.z_set (by decide +kernel) (pa_cons (pv 0) pa_nil)) pa_nil))) (pg_name (i := 2) sc__law_least_set.nd rfl (by first | exact Or.inl rfl | exact Or.inr rfl)) (pss_one (ps_if (PW.pt (pw_or (pt_cmpR (op_eqD hr.units) (pv 1) (pe_lst pa_nil) (nomark _)) (pw_or1 (pt_not (pt_val (pe_ix ix_seq (pe_call (ok__law_sieve T) (hr.mono (by decide)) (by rfl) T.m__law_sieve T.F__law_sieve.kp T.b__law_sieve .nil pX (pa_cons (pv 1) (pa_cons (pv 2) pa_nil))) (pv 2) (fun _ _ => rfl))))))) (pss_one (ps_expr (pe_bm PySem.F.plainAttrs_list PySem.F.slot_list_append PySem.F.type_list_append mt_append (pv 1) (pa_cons (pv 2) pa_nil)))) pss_nil)))
    (pss_one (ps_ret (pe_callTy call_tuple_of (by rfl) T.z_tuple (by decide +kernel) (pa_cons (pv 1) pa_nil)))))),
    (sim_seq (sim_asgN 1 (simN_lst sim_nil))
    (sim_seq (sim_for (simI_seq (sim_sortSet (sim_var 0))) (simG_name 2) (sim_ifS (sim_thawT 1 (sim_or (sim_test (sim_op s_eq (sim_var 1) (sim_lst sim_nil))) (sim_not (sim_B (sim_op s_ix (sim_callP (fun _ _ h => h) (sim_cons (sim_var 1) (sim_cons (sim_var 2) sim_nil))) (sim_var 2)))))) (sim_app 1 (sim_var 2)) sim_next))
    (sim_frz 1 (sim_ret (sim_cb s_tuple (sim_cons (sim_var 1) sim_nil))))))⟩
/-- _law_numbers -/
theorem ok__law_numbers (T : Txt K mg fa fd ca tk) : FnOk P w K mg base (L2.CX P w) 4 (fa 23) (fd 23) ["script", "town", "top", "most"] (spT K mg g__law_numbers) := by
  refine fnT' (k := 3) (sf := f__law_numbers) T.F__law_numbers sc__law_numbers (by decide) rfl fun tp cdv A outer s H E hr => ?_
  have pX : Passes (L2.CX P w) (cxOf (L2.CX P w) P w K mg base N__law_numbers "_law_numbers" (defScope st__law_numbers) (fa 23) cdv A outer s H E) E := passes_call (takes_of rfl rfl rfl rfl) fun _ _ _ _ h => h
  exact ⟨_, (pss_cons (by first | exact ps_setLc (i := 4) (own := [("again", 5)]) rfl sc__law_numbers.nd rfl rfl (sw_true rfl rfl rfl (by decide +kernel)) (pi_range1 (by rfl) T.z_range (pa_cons (pe_op o_add pe_int (pe_call (ok__law_draw T) (hr.mono (by decide)) (by rfl) T.m__law_draw T.F__law_draw.kp T.b__law_draw .nil pX (pa_cons (pv 0) (pa_cons (pv 1) (pa_cons (pv 3) pa_nil))))) pa_nil)) (blkOk_by (own := [("again", 5)]) (N := N__law_numbers) (sc := defScope st__law_numbers) (by decide +kernel)) (fun _ _ _ _ _ => (pg_name (i := 5) sc__law_numbers.nd rfl (by first | exact Or.inl rfl | exact Or.inr rfl))) (fun _ _ _ _ _ => pts_nil) (fun _ _ _ _ _ => (pe_op (OpR.at (r := rAddU) (K := K) rfl o_add) pe_int (pe_call (ok__law_draw T) (hr.mono (by decide)) (by rfl) T.m__law_draw T.F__law_draw.kp T.b__law_draw .nil passL (pa_cons (pv 0) (pa_cons (pv 1) (pa_cons (pv 2) pa_nil)))))) | exact ps_set (i := 4) sc__law_numbers.nd rfl (by first | exact Or.inl rfl | exact Or.inr rfl) (pe_lc (own := [("again", 5)]) rfl sc__law_numbers.nd (pi_range1 (by rfl) T.z_range (pa_cons (pe_op o_add pe_int (pe_call (ok__law_draw T) (hr.mono (by decide)) (by rfl) T.m__law_draw T.F__law_draw.kp T.b__law_draw .nil pX (pa_cons (pv 0) (pa_cons (pv 1) (pa_cons (pv 3) pa_nil))))) pa_nil)) (blkOk_by (own := [("again", 5)]) (N := N__law_numbers) (sc := defScope st__law_numbers) (by decide +kernel)) (fun _ _ _ _ _ => (pg_name (i := 5) sc__law_numbers.nd rfl (by first | exact Or.inl rfl | exact Or.inr rfl))) (fun _ _ _ _ _ => pts_nil) (fun _ _ _ _ _ => (pe_op (OpR.at (r := rAddU) (K := K) rfl o_add) pe_int (pe_call (ok__law_draw T) (hr.mono (by decide)) (by rfl) T.m__law_draw T.F__law_draw.kp T.b__law_draw .nil passL (pa_cons (pv 0) (pa_cons (pv 1) (pa_cons (pv 2) pa_nil))))))))
    (pss_cons (ps_while (passes_of rfl) (pt_cmpR (op_neD hr.units) (pe_call (ok__law_gcd T) (hr.mono (by decide)) (by rfl) T.m__law_gcd T.F__law_gcd.kp T.b__law_gcd .nil pX (pa_cons (pv 4) pa_nil)) pe_int (nomark _)) (pss_one (ps_expr (pe_bm PySem.F.plainAttrs_list PySem.F.slot_list_append PySem.F.type_list_append mt_append (pv 4) (pa_cons (pe_ifExp (pt_cmpR op_lt (pe_callB call_len (by rfl) T.z_len PySem.boot_len (pa_cons (pv 4) pa_nil)) pe_int (nomark _)) (pe_op o_add pe_int (pe_call (ok__law_draw T) (hr.mono (by decide)) (by rfl) T.m__law_draw T.F__law_draw.kp T.b__law_draw .nil pX (pa_cons (pv 0) (pa_cons (pv 1) (pa_cons (pv 2) pa_nil))))) pe_int) pa_nil)))))
    (pss_one (ps_ret (pv 4))))),
    (sim_seq (sim_asgN 4 (simN_lc (simI_rng1 (sim_cons (sim_op s_add (sim_int 1) (sim_callT (sim_cons (sim_var 0) (sim_consTw 1 (sim_cons (sim_var 3) sim_nil))))) sim_nil)) (simG_name 5) sim_yes (sim_op s_add (sim_int 1) (sim_callT (sim_cons (sim_var 0) (sim_consTw 1 (sim_cons (sim_var 2) sim_nil)))))))
    (sim_seq (sim_while FUEL (sim_thawT 4 (sim_test (sim_op s_ne (sim_callP (fun _ _ h => h) (sim_cons (sim_var 4) sim_nil)) (sim_int 1)))) (sim_app 4 (sim_if (sim_test (sim_op s_lt (sim_lenOw 4) (sim_int 20))) (sim_op s_add (sim_int 1) (sim_callT (sim_cons (sim_var 0) (sim_consTw 1 (sim_cons (sim_var 2) sim_nil))))) (sim_int 1))))
    (sim_frz 4 (sim_ret (sim_var 4)))))⟩
/-- law -/
theorem ok_law (T : Txt K mg fa fd ca tk) : FnOk P w K mg base (L2.CX P w) 7 (fa 24) (fd 24) ["script"] (spP K mg g_law) := by
  refine fnP' (k := 6) (sf := f_law) T.F_law sc_law (by decide) rfl fun cdv A outer s H E hr => ?_
  have pX : Passes (L2.CX P w) (cxOf (L2.CX P w) P w K mg base N_law "law" (defScope st_law) (fa 24) cdv A outer s H E) E := passes_call (takes_of rfl rfl rfl rfl) fun _ _ _ _ h => h
  exact ⟨_, (pss_cons (ps_set (i := 1) sc_law.nd rfl (by first | exact Or.inl rfl | exact Or.inr rfl) (pe_lst pa_nil)) (pss_cons (ps_set (i := 2) sc_law.nd rfl (by first | exact Or.inl rfl | exact Or.inr rfl) (pe_call (ok__law_least_set T) (hr.mono (by decide)) (by rfl) T.m__law_least_set T.F__law_least_set.kp T.b__law_least_set .nil pX (pa_cons (pe_call (ok__law_numbers T) (hr.mono (by decide)) (by rfl) T.m__law_numbers T.F__law_numbers.kp T.b__law_numbers .nil pX (pa_cons (pv 0) (pa_cons (pv 1) (pa_cons pe_int (pa_cons pe_int pa_nil))))) pa_nil)))
    (pss_cons (ps_set (i := 3) sc_law.nd rfl (by first | exact Or.inl rfl | exact Or.inr rfl) (pe_call (ok__law_holes T) (hr.mono (by decide)) (by rfl) T.m__law_holes T.F__law_holes.kp T.b__law_holes .nil pX (pa_cons (pv 2) pa_nil)))
    (pss_cons (ps_set (i := 4) sc_law.nd rfl (by first | exact Or.inl rfl | exact Or.inr rfl) (pe_callB (o_max rfl) (by rfl) T.z_max (by decide +kernel) (pa_cons (pe_op o_add (pv 3) (pe_lst (pa_cons (pe_un un_neg pe_int) pa_nil))) pa_nil)))
    (pss_cons (by first | exact ps_setLc (i := 5) (own := [("number", 9)]) rfl sc_law.nd rfl rfl (sw_true rfl rfl rfl (by decide +kernel)) (pi_range1 (by rfl) T.z_range (pa_cons (pe_op o_add (pv 4) pe_int) pa_nil)) (blkOk_by (own := [("number", 9)]) (N := N_law) (sc := defScope st_law) (by decide +kernel)) (fun _ _ _ _ _ => (pg_name (i := 9) sc_law.nd rfl (by first | exact Or.inl rfl | exact Or.inr rfl))) (fun _ _ _ _ _ => (pts_one (pt_cmpR (OpR.at (r := rEqD) (K := K) rfl (op_eqD hr.units)) (pe_cmpR (OpR.at (r := rInU) (K := K) rfl (o_in hr.un65)) (pv 9) (pv 3) (by rfl)) (pe_cmpR (OpR.at (r := rInU) (K := K) rfl (o_in hr.un65)) (pe_op op_sub (pv 4) (pv 9)) (pv 3) (by rfl)) (nomark _)))) (fun _ _ _ _ _ => (pv 9)) | exact ps_set (i := 5) sc_law.nd rfl (by first | exact Or.inl rfl | exact Or.inr rfl) (pe_lc (own := [("number", 9)]) rfl sc_law.nd (pi_range1 (by rfl) T.z_range (pa_cons (pe_op o_add (pv 4) pe_int) pa_nil)) (blkOk_by (own := [("number", 9)]) (N := N_law) (sc := defScope st_law) (by decide +kernel)) (fun _ _ _ _ _ => (pg_name (i := 9) sc_law.nd rfl (by first | exact Or.inl rfl | exact Or.inr rfl))) (fun _ _ _ _ _ => (pts_one (pt_cmpR (OpR.at (r := rEqD) (K := K) rfl (op_eqD hr.units)) (pe_cmpR (OpR.at (r := rInU) (K := K) rfl (o_in hr.un65)) (pv 9) (pv 3) (by rfl)) (pe_cmpR (OpR.at (r := rInU) (K := K) rfl (o_in hr.un65)) (pe_op op_sub (pv 4) (pv 9)) (pv 3) (by rfl)) (nomark _)))) (fun _ _ _ _ _ => (pv 9))))
    (pss_cons (ps_if (PW.pt (pw_or (pt_not (pt_val (pe_call (ok__law_same_truth T) (hr.mono (by decide)) (by rfl) T.m__law_same_truth T.F__law_same_truth.kp T.b__law_same_truth .nil pX (pa_cons (pe_call (ok_is_symmetric T) (hr.mono (by decide)) (by rfl) T.m_is_symmetric T.F_is_symmetric.kp T.b_is_symmetric .nil pX (pa_cons (pv 2) pa_nil)) (pa_cons (pe_cmpR (op_eqD hr.units) (pv 5) (pe_lst pa_nil) (nomark _)) pa_nil))))) (pw_or1 (pt_cmpR (op_neD hr.units) (pe_cmpR (op_eqD hr.units) (pv 5) (pe_lst pa_nil) (nomark _)) (pe_cmpR (op_eqD hr.units) (pe_op o_mul pe_int (pe_callB call_len (by rfl) T.z_len PySem.boot_len (pa_cons (pv 3) pa_nil))) (pe_op o_add (pv 4) pe_int) (nomark _)) (nomark _))))) (pss_one (ps_ret pe_bl)) pss_nil)
    (pss_cons (ps_set (i := 6) sc_law.nd rfl (by first | exact Or.inl rfl | exact Or.inr rfl) (pe_op o_add pe_int (pe_call (ok__law_draw T) (hr.mono (by decide)) (by rfl) T.m__law_draw T.F__law_draw.kp T.b__law_draw .nil pX (pa_cons (pv 0) (pa_cons (pv 1) (pa_cons pe_int pa_nil))))))
    (pss_cons (ps_set (i := 7) sc_law.nd rfl (by first | exact Or.inl rfl | exact Or.inr rfl) (pe_op o_add pe_int (pe_call (ok__law_draw T) (hr.mono (by decide)) (by rfl) T.m__law_draw T.F__law_draw.kp T.b__law_draw .nil pX (pa_cons (pv 0) (pa_cons (pv 1) (pa_cons pe_int pa_nil))))))
    (pss_cons (ps_while (passes_of rfl) (pt_cmpR (op_neD hr.units) (pe_call (ok__law_gcd T) (hr.mono (by decide)) (by rfl) T.m__law_gcd T.F__law_gcd.kp T.b__law_gcd .nil pX (pa_cons (pe_lst (pa_cons (pv 6) (pa_cons (pv 7) pa_nil))) pa_nil)) pe_int (nomark _)) (pss_one (ps_set (i := 7) sc_law.nd rfl (by first | exact Or.inl rfl | exact Or.inr rfl) (pe_op o_add pe_int (pe_call (ok__law_draw T) (hr.mono (by decide)) (by rfl) T.m__law_draw T.F__law_draw.kp T.b__law_draw .nil pX (pa_cons (pv 0) (pa_cons (pv 1) (pa_cons pe_int pa_nil))))))))
    (pss_cons (ps_set (i := 8) sc_law.nd rfl (by first | exact Or.inl rfl | exact Or.inr rfl) (pe_call (ok_from_numbers T) (hr.mono (by decide)) (by rfl) T.m_from_numbers T.F_from_numbers.kp T.b_from_numbers .nil pX (pa_cons (pe_lst (pa_cons (pv 6) (pa_cons (pv 7) pa_nil))) pa_nil)))
    (pss_cons (ps_if (PW.pt (pw_or (pt_cmpR (op_neD hr.units) (pv 8) (pe_tup (pa_cons (pe_callB (o_min rfl) (by rfl) T.z_min (by decide +kernel) (pa_cons (pv 6) (pa_cons (pv 7) pa_nil))) (pa_cons (pe_callB (o_max rfl) (by rfl) T.z_max (by decide +kernel) (pa_cons (pv 6) (pa_cons (pv 7) pa_nil))) pa_nil))) (nomark _)) (pw_or1 (pt_cmpR (op_neD hr.units) (pe_call (ok_greatest_gap T) (hr.mono (by decide)) (by rfl) T.m_greatest_gap T.F_greatest_gap.kp T.b_greatest_gap .nil pX (pa_cons (pv 8) pa_nil)) (pe_op op_sub (pe_op op_sub (pe_op o_mul (pv 6) (pv 7)) (pv 6)) (pv 7)) (nomark _))))) (pss_one (ps_ret pe_bl)) pss_nil)
    (pss_cons (ps_if (pt_cmpR (op_neD hr.units) (pe_op o_mul pe_int (pe_call (ok_genus T) (hr.mono (by decide)) (by rfl) T.m_genus T.F_genus.kp T.b_genus .nil pX (pa_cons (pv 8) pa_nil))) (pe_op o_mul (pe_op op_sub (pv 6) pe_int) (pe_op op_sub (pv 7) pe_int)) (nomark _)) (pss_one (ps_ret pe_bl)) pss_nil)
    (pss_one (ps_ret (pe_and (pe_cmpR o_is (pe_call (ok_is_symmetric T) (hr.mono (by decide)) (by rfl) T.m_is_symmetric T.F_is_symmetric.kp T.b_is_symmetric .nil pX (pa_cons (pv 8) pa_nil)) pe_bl (nomark _)) (pe_one (pe_cmpR o_is (pe_call (ok_is_irreducible T) (hr.mono (by decide)) (by rfl) T.m_is_irreducible T.F_is_irreducible.kp T.b_is_irreducible .nil pX (pa_cons (pv 8) pa_nil)) pe_bl (nomark _)))))))))))))))))),
    (sim_town 1 fun _ => (sim_seq (sim_asg 2 (sim_callP (fun _ _ h => h) (sim_cons (sim_callT (sim_cons (sim_var 0) (sim_consTw 1 (sim_cons (sim_int 18) (sim_cons (sim_int 4) sim_nil))))) sim_nil)))
    (sim_seq (sim_asg 3 (sim_callP (fun _ _ h => h) (sim_cons (sim_var 2) sim_nil)))
    (sim_seq (sim_asg 4 (sim_cb s_max (sim_cons (sim_op s_add (sim_var 3) (sim_lst (sim_cons (sim_un s_neg (sim_int 1)) sim_nil))) sim_nil)))
    (sim_seq (sim_asg 5 (sim_new (simN_lc (simI_rng1 (sim_cons (sim_op s_add (sim_var 4) (sim_int 1)) sim_nil)) (simG_name 9) (sim_test (sim_op s_eq (sim_op s_in (sim_var 9) (sim_var 3)) (sim_op s_in (sim_op s_sub (sim_var 4) (sim_var 9)) (sim_var 3)))) (sim_var 9))))
    (sim_seq (sim_ifS (sim_or (sim_not (sim_B (sim_callP (fun _ _ h => h) (sim_cons (sim_callP (fun _ _ h => h) (sim_cons (sim_var 2) sim_nil)) (sim_cons (sim_op s_eq (sim_var 5) (sim_lst sim_nil)) sim_nil))))) (sim_test (sim_op s_ne (sim_op s_eq (sim_var 5) (sim_lst sim_nil)) (sim_op s_eq (sim_op s_mul (sim_int 2) (sim_cb s_len (sim_cons (sim_var 3) sim_nil))) (sim_op s_add (sim_var 4) (sim_int 1)))))) (sim_ret (sim_bl false)) sim_next)
    (sim_seq (sim_asg 6 (sim_op s_add (sim_int 2) (sim_callT (sim_cons (sim_var 0) (sim_consTw 1 (sim_cons (sim_int 97) sim_nil))))))
    (sim_seq (sim_asg 7 (sim_op s_add (sim_int 2) (sim_callT (sim_cons (sim_var 0) (sim_consTw 1 (sim_cons (sim_int 97) sim_nil))))))
    (sim_seq (sim_while 9990000 (sim_test (sim_op s_ne (sim_callP (fun _ _ h => h) (sim_cons (sim_lst (sim_cons (sim_var 6) (sim_cons (sim_var 7) sim_nil))) sim_nil)) (sim_int 1))) (sim_asg 7 (sim_op s_add (sim_int 2) (sim_callT (sim_cons (sim_var 0) (sim_consTw 1 (sim_cons (sim_int 97) sim_nil)))))))
    (sim_seq (sim_asg 8 (sim_callP (fun _ _ h => h) (sim_cons (sim_lst (sim_cons (sim_var 6) (sim_cons (sim_var 7) sim_nil))) sim_nil)))
    (sim_seq (sim_ifS (sim_or (sim_test (sim_op s_ne (sim_var 8) (sim_tup (sim_cons (sim_cb s_min (sim_cons (sim_var 6) (sim_cons (sim_var 7) sim_nil))) (sim_cons (sim_cb s_max (sim_cons (sim_var 6) (sim_cons (sim_var 7) sim_nil))) sim_nil))))) (sim_test (sim_op s_ne (sim_callP (fun _ _ h => h) (sim_cons (sim_var 8) sim_nil)) (sim_op s_sub (sim_op s_sub (sim_op s_mul (sim_var 6) (sim_var 7)) (sim_var 6)) (sim_var 7))))) (sim_ret (sim_bl false)) sim_next)
    (sim_seq (sim_ifS (sim_test (sim_op s_ne (sim_op s_mul (sim_int 2) (sim_callP (fun _ _ h => h) (sim_cons (sim_var 8) sim_nil))) (sim_op s_mul (sim_op s_sub (sim_var 6) (sim_int 1)) (sim_op s_sub (sim_var 7) (sim_int 1))))) (sim_ret (sim_bl false)) sim_next)
    (sim_ret (sim_andV (sim_op s_is (sim_callP (fun _ _ h => h) (sim_cons (sim_var 8) sim_nil)) (sim_bl true)) (sim_op s_is (sim_callP (fun _ _ h => h) (sim_cons (sim_var 8) sim_nil)) (sim_bl true))))))))))))))))⟩
end
end Gk07
end

section
set_option Elab.async false
set_option linter.all false
set_option backward.match.sparseCases false
set_option maxRecDepth 100000
set_option maxHeartbeats 0
namespace Gk07
open G Gp L2 PySem PyProof.Rows PySem.Spec
theorem all_mk {w : World} {K : Frg} {h : Heap} {mg : Str → Option Value} {fl : Addr} {f0 f1 f2 f3 f4 f5 f6 f7 f8 f9 f10 f11 f12 f13 f14 f15 f16 f17 f18 f19 f20 f21 f22 f23 f24 C0 C1 C2 C3 : Addr} {od0 an0 od1 an1 od2 an2 od3 an3 od4 an4 od5 an5 od6 an6 od7 an7 od8 an8 od9 an9 od10 an10 od11 an11 od12 an12 od13 an13 od14 an14 od15 an15 od16 an16 od17 an17 od18 an18 od19 an19 od20 an20 od21 an21 od22 an22 od23 an23 od24 an24 : Option Addr} {sl0 sl1 sl2 sl3 sl4 sl5 sl6 sl7 sl8 sl9 sl10 sl11 sl12 sl13 sl14 sl15 sl16 sl17 sl18 sl19 sl20 sl21 sl22 sl23 sl24 : Array (Option Value)} {oc0 kV0 dc0 pm0 cd0 ct0 oc1 kV1 dc1 pm1 cd1 ct1 oc2 kV2 dc2 pm2 cd2 ct2 oc3 kV3 dc3 pm3 cd3 ct3 oc4 kV4 dc4 pm4 cd4 ct4 oc5 kV5 dc5 pm5 cd5 ct5 oc6 kV6 dc6 pm6 cd6 ct6 oc7 kV7 dc7 pm7 cd7 ct7 oc8 kV8 dc8 pm8 cd8 ct8 oc9 kV9 dc9 pm9 cd9 ct9 oc10 kV10 dc10 pm10 cd10 ct10 oc11 kV11 dc11 pm11 cd11 ct11 oc12 kV12 dc12 pm12 cd12 ct12 oc13 kV13 dc13 pm13 cd13 ct13 oc14 kV14 dc14 pm14 cd14 ct14 oc15 kV15 dc15 pm15 cd15 ct15 oc16 kV16 dc16 pm16 cd16 ct16 oc17 kV17 dc17 pm17 cd17 ct17 oc18 kV18 dc18 pm18 cd18 ct18 oc19 kV19 dc19 pm19 cd19 ct19 oc20 kV20 dc20 pm20 cd20 ct20 oc21 kV21 dc21 pm21 cd21 ct21 oc22 kV22 dc22 pm22 cd22 ct22 oc23 kV23 dc23 pm23 cd23 ct23 oc24 kV24 dc24 pm24 cd24 ct24 : Value} {t0 t1 : Tok} (X : K.In h) (G : h.Ns mainGlobals mg) (hfa : mg "law" = some (.ref fl))
    (a0 : PySem.W.nsIn K mainGlobals "is_integer" = some (some (.ref f0)))
    (l0 : K.lookup f0 = some ⟨oc0, od0, .func (PySem.W.fnOf "is_integer" "is_integer" (defArgs st_is_integer) (defBody st_is_integer) (defScope st_is_integer) .none kV0 dc0 pm0 an0 cd0 ct0), sl0⟩)
    (c0 : PySem.W.codeIn K cd0 "is_integer" = true) (q0 : PySem.W.keepIn K (.ref f0) = true)
    (a1 : PySem.W.nsIn K mainGlobals "divisor_of" = some (some (.ref f1)))
    (l1 : K.lookup f1 = some ⟨oc1, od1, .func (PySem.W.fnOf "divisor_of" "divisor_of" (defArgs st_divisor_of) (defBody st_divisor_of) (defScope st_divisor_of) .none kV1 dc1 pm1 an1 cd1 ct1), sl1⟩)
    (c1 : PySem.W.codeIn K cd1 "divisor_of" = true) (q1 : PySem.W.keepIn K (.ref f1) = true)
    (a2 : PySem.W.nsIn K mainGlobals "common_divisor" = some (some (.ref f2)))
    (l2 : K.lookup f2 = some ⟨oc2, od2, .func (PySem.W.fnOf "common_divisor" "common_divisor" (defArgs st_common_divisor) (defBody st_common_divisor) (defScope st_common_divisor) .none kV2 dc2 pm2 an2 cd2 ct2), sl2⟩)
    (c2 : PySem.W.codeIn K cd2 "common_divisor" = true) (q2 : PySem.W.keepIn K (.ref f2) = true)
    (a3 : PySem.W.nsIn K mainGlobals "least_by" = some (some (.ref f3)))
    (l3 : K.lookup f3 = some ⟨oc3, od3, .func (PySem.W.fnOf "least_by" "least_by" (defArgs st_least_by) (defBody st_least_by) (defScope st_least_by) .none kV3 dc3 pm3 an3 cd3 ct3), sl3⟩)
    (c3 : PySem.W.codeIn K cd3 "least_by" = true) (q3 : PySem.W.keepIn K (.ref f3) = true)
    (a4 : PySem.W.nsIn K mainGlobals "reduced" = some (some (.ref f4)))
    (l4 : K.lookup f4 = some ⟨oc4, od4, .func (PySem.W.fnOf "reduced" "reduced" (defArgs st_reduced) (defBody st_reduced) (defScope st_reduced) .none kV4 dc4 pm4 an4 cd4 ct4), sl4⟩)
    (c4 : PySem.W.codeIn K cd4 "reduced" = true) (q4 : PySem.W.keepIn K (.ref f4) = true)
    (a5 : PySem.W.nsIn K mainGlobals "is_semigroup" = some (some (.ref f5)))
    (l5 : K.lookup f5 = some ⟨oc5, od5, .func (PySem.W.fnOf "is_semigroup" "is_semigroup" (defArgs st_is_semigroup) (defBody st_is_semigroup) (defScope st_is_semigroup) .none kV5 dc5 pm5 an5 cd5 ct5), sl5⟩)
    (c5 : PySem.W.codeIn K cd5 "is_semigroup" = true) (q5 : PySem.W.keepIn K (.ref f5) = true)
    (a6 : PySem.W.nsIn K mainGlobals "check_semigroup" = some (some (.ref f6)))
    (l6 : K.lookup f6 = some ⟨oc6, od6, .func (PySem.W.fnOf "check_semigroup" "check_semigroup" (defArgs st_check_semigroup) (defBody st_check_semigroup) (defScope st_check_semigroup) .none kV6 dc6 pm6 an6 cd6 ct6), sl6⟩)
    (c6 : PySem.W.codeIn K cd6 "check_semigroup" = true) (q6 : PySem.W.keepIn K (.ref f6) = true)
    (a7 : PySem.W.nsIn K mainGlobals "limited" = some (some (.ref f7)))
    (l7 : K.lookup f7 = some ⟨oc7, od7, .func (PySem.W.fnOf "limited" "limited" (defArgs st_limited) (defBody st_limited) (defScope st_limited) .none kV7 dc7 pm7 an7 cd7 ct7), sl7⟩)
    (c7 : PySem.W.codeIn K cd7 "limited" = true) (q7 : PySem.W.keepIn K (.ref f7) = true)
    (a8 : PySem.W.nsIn K mainGlobals "from_numbers" = some (some (.ref f8)))
    (l8 : K.lookup f8 = some ⟨oc8, od8, .func (PySem.W.fnOf "from_numbers" "from_numbers" (defArgs st_from_numbers) (defBody st_from_numbers) (defScope st_from_numbers) .none kV8 dc8 pm8 an8 cd8 ct8), sl8⟩)
    (c8 : PySem.W.codeIn K cd8 "from_numbers" = true) (q8 : PySem.W.keepIn K (.ref f8) = true)
    (a9 : PySem.W.nsIn K mainGlobals "gap_list" = some (some (.ref f9)))
    (l9 : K.lookup f9 = some ⟨oc9, od9, .func (PySem.W.fnOf "gap_list" "gap_list" (defArgs st_gap_list) (defBody st_gap_list) (defScope st_gap_list) .none kV9 dc9 pm9 an9 cd9 ct9), sl9⟩)
    (c9 : PySem.W.codeIn K cd9 "gap_list" = true) (q9 : PySem.W.keepIn K (.ref f9) = true)
    (a10 : PySem.W.nsIn K mainGlobals "greatest_of" = some (some (.ref f10)))
    (l10 : K.lookup f10 = some ⟨oc10, od10, .func (PySem.W.fnOf "greatest_of" "greatest_of" (defArgs st_greatest_of) (defBody st_greatest_of) (defScope st_greatest_of) .none kV10 dc10 pm10 an10 cd10 ct10), sl10⟩)
    (c10 : PySem.W.codeIn K cd10 "greatest_of" = true) (q10 : PySem.W.keepIn K (.ref f10) = true)
    (a11 : PySem.W.nsIn K mainGlobals "genus" = some (some (.ref f11)))
    (l11 : K.lookup f11 = some ⟨oc11, od11, .func (PySem.W.fnOf "genus" "genus" (defArgs st_genus) (defBody st_genus) (defScope st_genus) .none kV11 dc11 pm11 an11 cd11 ct11), sl11⟩)
    (c11 : PySem.W.codeIn K cd11 "genus" = true) (q11 : PySem.W.keepIn K (.ref f11) = true)
    (a12 : PySem.W.nsIn K mainGlobals "greatest_gap" = some (some (.ref f12)))
    (l12 : K.lookup f12 = some ⟨oc12, od12, .func (PySem.W.fnOf "greatest_gap" "greatest_gap" (defArgs st_greatest_gap) (defBody st_greatest_gap) (defScope st_greatest_gap) .none kV12 dc12 pm12 an12 cd12 ct12), sl12⟩)
    (c12 : PySem.W.codeIn K cd12 "greatest_gap" = true) (q12 : PySem.W.keepIn K (.ref f12) = true)
    (a13 : PySem.W.nsIn K mainGlobals "is_symmetric" = some (some (.ref f13)))
    (l13 : K.lookup f13 = some ⟨oc13, od13, .func (PySem.W.fnOf "is_symmetric" "is_symmetric" (defArgs st_is_symmetric) (defBody st_is_symmetric) (defScope st_is_symmetric) .none kV13 dc13 pm13 an13 cd13 ct13), sl13⟩)
    (c13 : PySem.W.codeIn K cd13 "is_symmetric" = true) (q13 : PySem.W.keepIn K (.ref f13) = true)
    (a14 : PySem.W.nsIn K mainGlobals "is_irreducible" = some (some (.ref f14)))
    (l14 : K.lookup f14 = some ⟨oc14, od14, .func (PySem.W.fnOf "is_irreducible" "is_irreducible" (defArgs st_is_irreducible) (defBody st_is_irreducible) (defScope st_is_irreducible) .none kV14 dc14 pm14 an14 cd14 ct14), sl14⟩)
    (c14 : PySem.W.codeIn K cd14 "is_irreducible" = true) (q14 : PySem.W.keepIn K (.ref f14) = true)
    (a15 : PySem.W.nsIn K mainGlobals "_law_cell_at" = some (some (.ref f15)))
    (l15 : K.lookup f15 = some ⟨oc15, od15, .func (PySem.W.fnOf "_law_cell_at" "_law_cell_at" (defArgs st__law_cell_at) (defBody st__law_cell_at) (defScope st__law_cell_at) .none kV15 dc15 pm15 an15 cd15 ct15), sl15⟩)
    (c15 : PySem.W.codeIn K cd15 "_law_cell_at" = true) (q15 : PySem.W.keepIn K (.ref f15) = true)
    (a16 : PySem.W.nsIn K mainGlobals "_law_mixed" = some (some (.ref f16)))
    (l16 : K.lookup f16 = some ⟨oc16, od16, .func (PySem.W.fnOf "_law_mixed" "_law_mixed" (defArgs st__law_mixed) (defBody st__law_mixed) (defScope st__law_mixed) .none kV16 dc16 pm16 an16 cd16 ct16), sl16⟩)
    (c16 : PySem.W.codeIn K cd16 "_law_mixed" = true) (q16 : PySem.W.keepIn K (.ref f16) = true)
    (a17 : PySem.W.nsIn K mainGlobals "_law_draw" = some (some (.ref f17)))
    (l17 : K.lookup f17 = some ⟨oc17, od17, .func (PySem.W.fnOf "_law_draw" "_law_draw" (defArgs st__law_draw) (defBody st__law_draw) (defScope st__law_draw) .none kV17 dc17 pm17 an17 cd17 ct17), sl17⟩)
    (c17 : PySem.W.codeIn K cd17 "_law_draw" = true) (q17 : PySem.W.keepIn K (.ref f17) = true)
    (a18 : PySem.W.nsIn K mainGlobals "_law_same_truth" = some (some (.ref f18)))
    (l18 : K.lookup f18 = some ⟨oc18, od18, .func (PySem.W.fnOf "_law_same_truth" "_law_same_truth" (defArgs st__law_same_truth) (defBody st__law_same_truth) (defScope st__law_same_truth) .none kV18 dc18 pm18 an18 cd18 ct18), sl18⟩)
    (c18 : PySem.W.codeIn K cd18 "_law_same_truth" = true) (q18 : PySem.W.keepIn K (.ref f18) = true)
    (a19 : PySem.W.nsIn K mainGlobals "_law_gcd" = some (some (.ref f19)))
    (l19 : K.lookup f19 = some ⟨oc19, od19, .func (PySem.W.fnOf "_law_gcd" "_law_gcd" (defArgs st__law_gcd) (defBody st__law_gcd) (defScope st__law_gcd) .none kV19 dc19 pm19 an19 cd19 ct19), sl19⟩)
    (c19 : PySem.W.codeIn K cd19 "_law_gcd" = true) (q19 : PySem.W.keepIn K (.ref f19) = true)
    (a20 : PySem.W.nsIn K mainGlobals "_law_sieve" = some (some (.ref f20)))
    (l20 : K.lookup f20 = some ⟨oc20, od20, .func (PySem.W.fnOf "_law_sieve" "_law_sieve" (defArgs st__law_sieve) (defBody st__law_sieve) (defScope st__law_sieve) .none kV20 dc20 pm20 an20 cd20 ct20), sl20⟩)
    (c20 : PySem.W.codeIn K cd20 "_law_sieve" = true) (q20 : PySem.W.keepIn K (.ref f20) = true)
    (a21 : PySem.W.nsIn K mainGlobals "_law_holes" = some (some (.ref f21)))
    (l21 : K.lookup f21 = some ⟨oc21, od21, .func (PySem.W.fnOf "_law_holes" "_law_holes" (defArgs st__law_holes) (defBody st__law_holes) (defScope st__law_holes) .none kV21 dc21 pm21 an21 cd21 ct21), sl21⟩)
    (c21 : PySem.W.codeIn K cd21 "_law_holes" = true) (q21 : PySem.W.keepIn K (.ref f21) = true)
    (a22 : PySem.W.nsIn K mainGlobals "_law_least_set" = some (some (.ref f22)))
    (l22 : K.lookup f22 = some ⟨oc22, od22, .func (PySem.W.fnOf "_law_least_set" "_law_least_set" (defArgs st__law_least_set) (defBody st__law_least_set) (defScope st__law_least_set) .none kV22 dc22 pm22 an22 cd22 ct22), sl22⟩)
    (c22 : PySem.W.codeIn K cd22 "_law_least_set" = true) (q22 : PySem.W.keepIn K (.ref f22) = true)
    (a23 : PySem.W.nsIn K mainGlobals "_law_numbers" = some (some (.ref f23)))
    (l23 : K.lookup f23 = some ⟨oc23, od23, .func (PySem.W.fnOf "_law_numbers" "_law_numbers" (defArgs st__law_numbers) (defBody st__law_numbers) (defScope st__law_numbers) .none kV23 dc23 pm23 an23 cd23 ct23), sl23⟩)
    (c23 : PySem.W.codeIn K cd23 "_law_numbers" = true) (q23 : PySem.W.keepIn K (.ref f23) = true)
    (a24 : PySem.W.nsIn K mainGlobals "law" = some (some (.ref f24)))
    (l24 : K.lookup f24 = some ⟨oc24, od24, .func (PySem.W.fnOf "law" "law" (defArgs st_law) (defBody st_law) (defScope st_law) .none kV24 dc24 pm24 an24 cd24 ct24), sl24⟩)
    (c24 : PySem.W.codeIn K cd24 "law" = true) (q24 : PySem.W.keepIn K (.ref f24) = true)
    (z_all : PySem.W.nsIn K mainGlobals "all" = some none)
    (z_bool : PySem.W.nsIn K mainGlobals "bool" = some none)
    (z_enumerate : PySem.W.nsIn K mainGlobals "enumerate" = some none)
    (z_int : PySem.W.nsIn K mainGlobals "int" = some none)
    (z_isinstance : PySem.W.nsIn K mainGlobals "isinstance" = some none)
    (z_len : PySem.W.nsIn K mainGlobals "len" = some none)
    (z_list : PySem.W.nsIn K mainGlobals "list" = some none)
    (z_max : PySem.W.nsIn K mainGlobals "max" = some none)
    (z_min : PySem.W.nsIn K mainGlobals "min" = some none)
    (z_range : PySem.W.nsIn K mainGlobals "range" = some none)
    (z_set : PySem.W.nsIn K mainGlobals "set" = some none)
    (z_sorted : PySem.W.nsIn K mainGlobals "sorted" = some none)
    (z_tuple : PySem.W.nsIn K mainGlobals "tuple" = some none)
    (k_LARGEST : PySem.W.nsIn K mainGlobals "LARGEST" = some (some (.int 99 t0)))
    (k_COUNT : PySem.W.nsIn K mainGlobals "COUNT" = some (some (.int 12 t1)))
    (eg0 : PySem.W.nsIn K mainGlobals "InvalidSemigroup" = some (some (.ref C0)))
    (ex0 : PySem.W.excIn K C0 [.type "ValueError", .type "Exception", .type "BaseException", .type "object"] "ValueError.__new__" = true)
    (ek0 : PySem.W.keepIn K (.ref C0) = true) (eb0 : PySem.W.subIn K (.ref C0) (.type "BaseException") = some true) (et0 : PySem.W.typeIn K (.ref C0) = some (.type "type"))
    (eg1 : PySem.W.nsIn K mainGlobals "InvalidNumbers" = some (some (.ref C1)))
    (ex1 : PySem.W.excIn K C1 [.type "ValueError", .type "Exception", .type "BaseException", .type "object"] "ValueError.__new__" = true)
    (ek1 : PySem.W.keepIn K (.ref C1) = true) (eb1 : PySem.W.subIn K (.ref C1) (.type "BaseException") = some true) (et1 : PySem.W.typeIn K (.ref C1) = some (.type "type"))
    (eg2 : PySem.W.nsIn K mainGlobals "NotCoprime" = some (some (.ref C2)))
    (ex2 : PySem.W.excIn K C2 [.type "ValueError", .type "Exception", .type "BaseException", .type "object"] "ValueError.__new__" = true)
    (ek2 : PySem.W.keepIn K (.ref C2) = true) (eb2 : PySem.W.subIn K (.ref C2) (.type "BaseException") = some true) (et2 : PySem.W.typeIn K (.ref C2) = some (.type "type"))
    (eg3 : PySem.W.nsIn K mainGlobals "TooLarge" = some (some (.ref C3)))
    (ex3 : PySem.W.excIn K C3 [.type "ValueError", .type "Exception", .type "BaseException", .type "object"] "ValueError.__new__" = true)
    (ek3 : PySem.W.keepIn K (.ref C3) = true) (eb3 : PySem.W.subIn K (.ref C3) (.type "BaseException") = some true) (et3 : PySem.W.typeIn K (.ref C3) = some (.type "type"))
    : ∃ fd : FuncData, (∀ (s : Shared) (v : Value), BindsTo s fd ⟨[v], []⟩ [("script", v)]) ∧ ∀ base : Heap, K.In base → base.Ns mainGlobals mg → FnOk PySem.Challenge.rw_sumgaps_k07_whole_symmetry.prog w K mg base (L2.CX PySem.Challenge.rw_sumgaps_k07_whole_symmetry.prog w) 7 fl fd ["script"] (spLaw K g_law) := by
  have e : f24 = fl := by
    have e := (PySem.W.mg_of X G a24).symm.trans hfa
    injection e with e
    injection e
  subst e
  have F0 := fun_mk (st := st_is_integer) l0 c0 q0
  have F1 := fun_mk (st := st_divisor_of) l1 c1 q1
  have F2 := fun_mk (st := st_common_divisor) l2 c2 q2
  have F3 := fun_mk (st := st_least_by) l3 c3 q3
  have F4 := fun_mk (st := st_reduced) l4 c4 q4
  have F5 := fun_mk (st := st_is_semigroup) l5 c5 q5
  have F6 := fun_mk (st := st_check_semigroup) l6 c6 q6
  have F7 := fun_mk (st := st_limited) l7 c7 q7
  have F8 := fun_mk (st := st_from_numbers) l8 c8 q8
  have F9 := fun_mk (st := st_gap_list) l9 c9 q9
  have F10 := fun_mk (st := st_greatest_of) l10 c10 q10
  have F11 := fun_mk (st := st_genus) l11 c11 q11
  have F12 := fun_mk (st := st_greatest_gap) l12 c12 q12
  have F13 := fun_mk (st := st_is_symmetric) l13 c13 q13
  have F14 := fun_mk (st := st_is_irreducible) l14 c14 q14
  have F15 := fun_mk (st := st__law_cell_at) l15 c15 q15
  have F16 := fun_mk (st := st__law_mixed) l16 c16 q16
  have F17 := fun_mk (st := st__law_draw) l17 c17 q17
  have F18 := fun_mk (st := st__law_same_truth) l18 c18 q18
  have F19 := fun_mk (st := st__law_gcd) l19 c19 q19
  have F20 := fun_mk (st := st__law_sieve) l20 c20 q20
  have F21 := fun_mk (st := st__law_holes) l21 c21 q21
  have F22 := fun_mk (st := st__law_least_set) l22 c22 q22
  have F23 := fun_mk (st := st__law_numbers) l23 c23 q23
  have F24 := fun_mk (st := st_law) l24 c24 q24
  let fds : List FuncData := [PySem.W.fnOf "is_integer" "is_integer" (defArgs st_is_integer) (defBody st_is_integer) (defScope st_is_integer) .none kV0 dc0 pm0 an0 cd0 ct0, PySem.W.fnOf "divisor_of" "divisor_of" (defArgs st_divisor_of) (defBody st_divisor_of) (defScope st_divisor_of) .none kV1 dc1 pm1 an1 cd1 ct1, PySem.W.fnOf "common_divisor" "common_divisor" (defArgs st_common_divisor) (defBody st_common_divisor) (defScope st_common_divisor) .none kV2 dc2 pm2 an2 cd2 ct2, PySem.W.fnOf "least_by" "least_by" (defArgs st_least_by) (defBody st_least_by) (defScope st_least_by) .none kV3 dc3 pm3 an3 cd3 ct3, PySem.W.fnOf "reduced" "reduced" (defArgs st_reduced) (defBody st_reduced) (defScope st_reduced) .none kV4 dc4 pm4 an4 cd4 ct4, PySem.W.fnOf "is_semigroup" "is_semigroup" (defArgs st_is_semigroup) (defBody st_is_semigroup) (defScope st_is_semigroup) .none kV5 dc5 pm5 an5 cd5 ct5, PySem.W.fnOf "check_semigroup" "check_semigroup" (defArgs st_check_semigroup) (defBody st_check_semigroup) (defScope st_check_semigroup) .none kV6 dc6 pm6 an6 cd6 ct6, PySem.W.fnOf "limited" "limited" (defArgs st_limited) (defBody st_limited) (defScope st_limited) .none kV7 dc7 pm7 an7 cd7 ct7, PySem.W.fnOf "from_numbers" "from_numbers" (defArgs st_from_numbers) (defBody st_from_numbers) (defScope st_from_numbers) .none kV8 dc8 pm8 an8 cd8 ct8, PySem.W.fnOf "gap_list" "gap_list" (defArgs st_gap_list) (defBody st_gap_list) (defScope st_gap_list) .none kV9 dc9 pm9 an9 cd9 ct9, PySem.W.fnOf "greatest_of" "greatest_of" (defArgs st_greatest_of) (defBody st_greatest_of) (defScope st_greatest_of) .none kV10 dc10 pm10 an10 cd10 ct10, PySem.W.fnOf "genus" "genus" (defArgs st_genus) (defBody st_genus) (defScope st_genus) .none kV11 dc11 pm11 an11 cd11 ct11, PySem.W.fnOf "greatest_gap" "greatest_gap" (defArgs st_greatest_gap) (defBody st_greatest_gap) (defScope st_greatest_gap) .none kV12 dc12 pm12 an12 cd12 ct12, PySem.W.fnOf "is_symmetric" "is_symmetric" (defArgs st_is_symmetric) (defBody st_is_symmetric) (defScope st_is_symmetric) .none kV13 dc13 pm13 an13 cd13 ct13, PySem.W.fnOf "is_irreducible" "is_irreducible" (defArgs st_is_irreducible) (defBody st_is_irreducible) (defScope st_is_irreducible) .none kV14 dc14 pm14 an14 cd14 ct14, PySem.W.fnOf "_law_cell_at" "_law_cell_at" (defArgs st__law_cell_at) (defBody st__law_cell_at) (defScope st__law_cell_at) .none kV15 dc15 pm15 an15 cd15 ct15, PySem.W.fnOf "_law_mixed" "_law_mixed" (defArgs st__law_mixed) (defBody st__law_mixed) (defScope st__law_mixed) .none kV16 dc16 pm16 an16 cd16 ct16, PySem.W.fnOf "_law_draw" "_law_draw" (defArgs st__law_draw) (defBody st__law_draw) (defScope st__law_draw) .none kV17 dc17 pm17 an17 cd17 ct17, PySem.W.fnOf "_law_same_truth" "_law_same_truth" (defArgs st__law_same_truth) (defBody st__law_same_truth) (defScope st__law_same_truth) .none kV18 dc18 pm18 an18 cd18 ct18, PySem.W.fnOf "_law_gcd" "_law_gcd" (defArgs st__law_gcd) (defBody st__law_gcd) (defScope st__law_gcd) .none kV19 dc19 pm19 an19 cd19 ct19, PySem.W.fnOf "_law_sieve" "_law_sieve" (defArgs st__law_sieve) (defBody st__law_sieve) (defScope st__law_sieve) .none kV20 dc20 pm20 an20 cd20 ct20, PySem.W.fnOf "_law_holes" "_law_holes" (defArgs st__law_holes) (defBody st__law_holes) (defScope st__law_holes) .none kV21 dc21 pm21 an21 cd21 ct21, PySem.W.fnOf "_law_least_set" "_law_least_set" (defArgs st__law_least_set) (defBody st__law_least_set) (defScope st__law_least_set) .none kV22 dc22 pm22 an22 cd22 ct22, PySem.W.fnOf "_law_numbers" "_law_numbers" (defArgs st__law_numbers) (defBody st__law_numbers) (defScope st__law_numbers) .none kV23 dc23 pm23 an23 cd23 ct23, PySem.W.fnOf "law" "law" (defArgs st_law) (defBody st_law) (defScope st_law) .none kV24 dc24 pm24 an24 cd24 ct24]
  have T : Txt K mg (fun i => [f0, f1, f2, f3, f4, f5, f6, f7, f8, f9, f10, f11, f12, f13, f14, f15, f16, f17, f18, f19, f20, f21, f22, f23, f24].getD i 0) (fun i => fds.getD i (fds.headD (PySem.W.fnOf "law" "law" (defArgs st_law) (defBody st_law) (defScope st_law) .none kV24 dc24 pm24 an24 cd24 ct24))) (fun i => [C0, C1, C2, C3].getD i 0) (fun i => [t0, t1].getD i default) := {
    F_is_integer := F0
    m_is_integer := PySem.W.mg_of X G a0
    b_is_integer := F0.binds (ps := ["value", "low", "high"]) fun _ _ _ _ _ _ us hl => match us, hl with | [_, _, _], _ => rfl
    F_divisor_of := F1
    m_divisor_of := PySem.W.mg_of X G a1
    b_divisor_of := F1.binds (ps := ["one", "other"]) fun _ _ _ _ _ _ us hl => match us, hl with | [_, _], _ => rfl
    F_common_divisor := F2
    m_common_divisor := PySem.W.mg_of X G a2
    b_common_divisor := F2.binds (ps := ["numbers"]) fun _ _ _ _ _ _ us hl => match us, hl with | [_], _ => rfl
    F_least_by := F3
    m_least_by := PySem.W.mg_of X G a3
    b_least_by := F3.binds (ps := ["generators", "m"]) fun _ _ _ _ _ _ us hl => match us, hl with | [_, _], _ => rfl
    F_reduced := F4
    m_reduced := PySem.W.mg_of X G a4
    b_reduced := F4.binds (ps := ["numbers"]) fun _ _ _ _ _ _ us hl => match us, hl with | [_], _ => rfl
    F_is_semigroup := F5
    m_is_semigroup := PySem.W.mg_of X G a5
    b_is_semigroup := F5.binds (ps := ["value"]) fun _ _ _ _ _ _ us hl => match us, hl with | [_], _ => rfl
    F_check_semigroup := F6
    m_check_semigroup := PySem.W.mg_of X G a6
    b_check_semigroup := F6.binds (ps := ["semigroup"]) fun _ _ _ _ _ _ us hl => match us, hl with | [_], _ => rfl
    F_limited := F7
    m_limited := PySem.W.mg_of X G a7
    b_limited := F7.binds (ps := ["generators"]) fun _ _ _ _ _ _ us hl => match us, hl with | [_], _ => rfl
    F_from_numbers := F8
    m_from_numbers := PySem.W.mg_of X G a8
    b_from_numbers := F8.binds (ps := ["numbers"]) fun _ _ _ _ _ _ us hl => match us, hl with | [_], _ => rfl
    F_gap_list := F9
    m_gap_list := PySem.W.mg_of X G a9
    b_gap_list := F9.binds (ps := ["semigroup"]) fun _ _ _ _ _ _ us hl => match us, hl with | [_], _ => rfl
    F_greatest_of := F10
    m_greatest_of := PySem.W.mg_of X G a10
    b_greatest_of := F10.binds (ps := ["semigroup"]) fun _ _ _ _ _ _ us hl => match us, hl with | [_], _ => rfl
    F_genus := F11
    m_genus := PySem.W.mg_of X G a11
    b_genus := F11.binds (ps := ["semigroup"]) fun _ _ _ _ _ _ us hl => match us, hl with | [_], _ => rfl
    F_greatest_gap := F12
    m_greatest_gap := PySem.W.mg_of X G a12
    b_greatest_gap := F12.binds (ps := ["semigroup"]) fun _ _ _ _ _ _ us hl => match us, hl with | [_], _ => rfl
    F_is_symmetric := F13
    m_is_symmetric := PySem.W.mg_of X G a13
    b_is_symmetric := F13.binds (ps := ["semigroup"]) fun _ _ _ _ _ _ us hl => match us, hl with | [_], _ => rfl
    F_is_irreducible := F14
    m_is_irreducible := PySem.W.mg_of X G a14
    b_is_irreducible := F14.binds (ps := ["semigroup"]) fun _ _ _ _ _ _ us hl => match us, hl with | [_], _ => rfl
    F__law_cell_at := F15
    m__law_cell_at := PySem.W.mg_of X G a15
    b__law_cell_at := F15.binds (ps := ["script", "k"]) fun _ _ _ _ _ _ us hl => match us, hl with | [_, _], _ => rfl
    F__law_mixed := F16
    m__law_mixed := PySem.W.mg_of X G a16
    b__law_mixed := F16.binds (ps := ["script", "k", "many"]) fun _ _ _ _ _ _ us hl => match us, hl with | [_, _, _], _ => rfl
    F__law_draw := F17
    m__law_draw := PySem.W.mg_of X G a17
    b__law_draw := F17.binds (ps := ["script", "town", "many"]) fun _ _ _ _ _ _ us hl => match us, hl with | [_, _, _], _ => rfl
    F__law_same_truth := F18
    m__law_same_truth := PySem.W.mg_of X G a18
    b__law_same_truth := F18.binds (ps := ["got", "due"]) fun _ _ _ _ _ _ us hl => match us, hl with | [_, _], _ => rfl
    F__law_gcd := F19
    m__law_gcd := PySem.W.mg_of X G a19
    b__law_gcd := F19.binds (ps := ["some"]) fun _ _ _ _ _ _ us hl => match us, hl with | [_], _ => rfl
    F__law_sieve := F20
    m__law_sieve := PySem.W.mg_of X G a20
    b__law_sieve := F20.binds (ps := ["some", "top"]) fun _ _ _ _ _ _ us hl => match us, hl with | [_, _], _ => rfl
    F__law_holes := F21
    m__law_holes := PySem.W.mg_of X G a21
    b__law_holes := F21.binds (ps := ["some"]) fun _ _ _ _ _ _ us hl => match us, hl with | [_], _ => rfl
    F__law_least_set := F22
    m__law_least_set := PySem.W.mg_of X G a22
    b__law_least_set := F22.binds (ps := ["some"]) fun _ _ _ _ _ _ us hl => match us, hl with | [_], _ => rfl
    F__law_numbers := F23
    m__law_numbers := PySem.W.mg_of X G a23
    b__law_numbers := F23.binds (ps := ["script", "town", "top", "most"]) fun _ _ _ _ _ _ us hl => match us, hl with | [_, _, _, _], _ => rfl
    F_law := F24
    m_law := PySem.W.mg_of X G a24
    b_law := F24.binds (ps := ["script"]) fun _ _ _ _ _ _ us hl => match us, hl with | [_], _ => rfl
    z_all := PySem.W.mg_none_of X G z_all
    z_bool := PySem.W.mg_none_of X G z_bool
    z_enumerate := PySem.W.mg_none_of X G z_enumerate
    z_int := PySem.W.mg_none_of X G z_int
    z_isinstance := PySem.W.mg_none_of X G z_isinstance
    z_len := PySem.W.mg_none_of X G z_len
    z_list := PySem.W.mg_none_of X G z_list
    z_max := PySem.W.mg_none_of X G z_max
    z_min := PySem.W.mg_none_of X G z_min
    z_range := PySem.W.mg_none_of X G z_range
    z_set := PySem.W.mg_none_of X G z_set
    z_sorted := PySem.W.mg_none_of X G z_sorted
    z_tuple := PySem.W.mg_none_of X G z_tuple
    k_LARGEST := PySem.W.mg_of X G k_LARGEST
    k_COUNT := PySem.W.mg_of X G k_COUNT
    e_InvalidSemigroup := ⟨PySem.W.mg_of X G eg0, ex0, ek0, eb0, et0⟩
    e_InvalidNumbers := ⟨PySem.W.mg_of X G eg1, ex1, ek1, eb1, et1⟩
    e_NotCoprime := ⟨PySem.W.mg_of X G eg2, ex2, ek2, eb2, et2⟩
    e_TooLarge := ⟨PySem.W.mg_of X G eg3, ex3, ek3, eb3, et3⟩
  }
  exact ⟨_, fun s v => .of_eq rfl, fun base _ _ => (ok_law T).imp spLaw_imp⟩
end Gk07
open PySem PySem.W PyProof.Rows
set_option maxHeartbeats 0 in
theorem PySem.Challenge.cw_sumgaps_k07_whole_symmetry_holds : PySem.Challenge.rw_sumgaps_k07_whole_symmetry.Holds := by
  w_on; o_law; k_head; (case hw => w_witness2)
  k_fill
  refine L2.walk_of (l := PySem.Challenge.rw_sumgaps_k07_whole_symmetry) (n := 63) (k := 7) (x := "script") (CX := fun w => L2.CX PySem.Challenge.rw_sumgaps_k07_whole_symmetry.prog w) (sp := fun w => G.spLaw _ Gk07.g_law) rfl (by decide) rfl ⟨rfl, by decide, by decide⟩ (fun w h Y => PySem.W.kIn_of Y) ?F (fun _ _ a ms hl _ hS => ⟨a, ms, rfl, hS, Gk07.law_true ms hl, fun _ => rfl⟩) (fun _ H s e s2 h => G.noCX H s e s2 h)
  case F =>
    intro w mg fa h KX GX hmg
    refine' Gk07.all_mk KX GX hmg ?a0 ?l0 ?c0 ?q0 ?a1 ?l1 ?c1 ?q1 ?a2 ?l2 ?c2 ?q2 ?a3 ?l3 ?c3 ?q3 ?a4 ?l4 ?c4 ?q4 ?a5 ?l5 ?c5 ?q5 ?a6 ?l6 ?c6 ?q6 ?a7 ?l7 ?c7 ?q7 ?a8 ?l8 ?c8 ?q8 ?a9 ?l9 ?c9 ?q9 ?a10 ?l10 ?c10 ?q10 ?a11 ?l11 ?c11 ?q11 ?a12 ?l12 ?c12 ?q12 ?a13 ?l13 ?c13 ?q13 ?a14 ?l14 ?c14 ?q14 ?a15 ?l15 ?c15 ?q15 ?a16 ?l16 ?c16 ?q16 ?a17 ?l17 ?c17 ?q17 ?a18 ?l18 ?c18 ?q18 ?a19 ?l19 ?c19 ?q19 ?a20 ?l20 ?c20 ?q20 ?a21 ?l21 ?c21 ?q21 ?a22 ?l22 ?c22 ?q22 ?a23 ?l23 ?c23 ?q23 ?a24 ?l24 ?c24 ?q24 ?z_all ?z_bool ?z_enumerate ?z_int ?z_isinstance ?z_len ?z_list ?z_max ?z_min ?z_range ?z_set ?z_sorted ?z_tuple ?k_LARGEST ?k_COUNT ?eg0 ?ex0 ?ek0 ?eb0 ?et0 ?eg1 ?ex1 ?ek1 ?eb1 ?et1 ?eg2 ?ex2 ?ek2 ?eb2 ?et2 ?eg3 ?ex3 ?ek3 ?eb3 ?et3
    (case a0 => k_is); (case l0 => k_is); (case c0 => k_is); (case q0 => k_is); (case a1 => k_is); (case l1 => k_is)
    (case c1 => k_is); (case q1 => k_is); (case a2 => k_is); (case l2 => k_is); (case c2 => k_is); (case q2 => k_is)
    (case a3 => k_is); (case l3 => k_is); (case c3 => k_is); (case q3 => k_is); (case a4 => k_is); (case l4 => k_is)
    (case c4 => k_is); (case q4 => k_is); (case a5 => k_is); (case l5 => k_is); (case c5 => k_is); (case q5 => k_is)
    (case a6 => k_is); (case l6 => k_is); (case c6 => k_is); (case q6 => k_is); (case a7 => k_is); (case l7 => k_is)
    (case c7 => k_is); (case q7 => k_is); (case a8 => k_is); (case l8 => k_is); (case c8 => k_is); (case q8 => k_is)
    (case a9 => k_is); (case l9 => k_is); (case c9 => k_is); (case q9 => k_is); (case a10 => k_is); (case l10 => k_is)
    (case c10 => k_is); (case q10 => k_is); (case a11 => k_is); (case l11 => k_is); (case c11 => k_is); (case q11 => k_is)
    (case a12 => k_is); (case l12 => k_is); (case c12 => k_is); (case q12 => k_is); (case a13 => k_is); (case l13 => k_is)
    (case c13 => k_is); (case q13 => k_is); (case a14 => k_is); (case l14 => k_is); (case c14 => k_is); (case q14 => k_is)
    (case a15 => k_is); (case l15 => k_is); (case c15 => k_is); (case q15 => k_is); (case a16 => k_is); (case l16 => k_is)
    (case c16 => k_is); (case q16 => k_is); (case a17 => k_is); (case l17 => k_is); (case c17 => k_is); (case q17 => k_is)
    (case a18 => k_is); (case l18 => k_is); (case c18 => k_is); (case q18 => k_is); (case a19 => k_is); (case l19 => k_is)
    (case c19 => k_is); (case q19 => k_is); (case a20 => k_is); (case l20 => k_is); (case c20 => k_is); (case q20 => k_is)
    (case a21 => k_is); (case l21 => k_is); (case c21 => k_is); (case q21 => k_is); (case a22 => k_is); (case l22 => k_is)
    (case c22 => k_is); (case q22 => k_is); (case a23 => k_is); (case l23 => k_is); (case c23 => k_is); (case q23 => k_is)
    (case a24 => k_is); (case l24 => k_is); (case c24 => k_is); (case q24 => k_is); (case z_all => k_is); (case z_bool => k_is)
    (case z_enumerate => k_is); (case z_int => k_is); (case z_isinstance => k_is); (case z_len => k_is); (case z_list => k_is); (case z_max => k_is)
    (case z_min => k_is); (case z_range => k_is); (case z_set => k_is); (case z_sorted => k_is); (case z_tuple => k_is); (case k_LARGEST => k_is)
    (case k_COUNT => k_is); (case eg0 => k_is); (case ex0 => k_exc); (case ek0 => k_is); (case eb0 => k_is); (case et0 => k_is)
    (case eg1 => k_is); (case ex1 => k_exc); (case ek1 => k_is); (case eb1 => k_is); (case et1 => k_is); (case eg2 => k_is)
    (case ex2 => k_exc); (case ek2 => k_is); (case eb2 => k_is); (case et2 => k_is); (case eg3 => k_is); (case ex3 => k_exc)
    (case ek3 => k_is); (case eb3 => k_is); (case et3 => k_is)
end

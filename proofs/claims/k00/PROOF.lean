import PyProof.Rows.All
import Wide.All
import OpenK.AllK
import Wide.FinOn
import HandS.ForMost
import HandS.ForExc
import HandS.Gcd
import HandS.Zip
import HandS.IsInst
import HandS.ExcCtx
import HandS.HotCalls
import HandS.Conv
import HandS.TupAny
import HandS.Wide
import HandS.Lambda
import HandS.ExcIs
import HandS.Deep
import HandS.Style
import HandS.Flow
import KE.KMathGC
import KE.GoesEnum
import HandS.HeadHook2
import HandS.Head0
import HandS.Head1
import HandS.Head2
import HandS.HeadEnd
import HandS.HeadHook3
import HandS.HeadHook4
import PyProof.ExcBaseAll.ValueError
import HandS.HeadWalk
import HandS.Head3
import PySem.Challenge.RW_walledbodies_k00_whole_portions
set_option Elab.async false
set_option linter.all false
set_option maxRecDepth 100000
/-! Pv.A: plain values, how they lie in the abstract heap, steps. -/
namespace Pv
open L2 PySem PyProof.Rows PySem.Spec

/-- an exception: its class by number, the one attribute (an int) it may bear -/
structure Xc where
  c : Nat
  pl : Option (Str × Int)
  deriving Inhabited
/-- plain values: trees; a box is a list with an identity (its number), fn a def of the text by number -/
inductive D where
  | non | bl (b : Bool) | int (i : Int) | str (s : Str)
  | tup (xs : List D) | lst (xs : List D) | scr (ns : List Int)
  | dK (kvs : List (Key × D)) | dT (kvs : List (List Key × D))
  | box (k : Nat) | fn (k : Nat) | exn (x : Xc)
  deriving Inhabited

/-- what the relation leans on: the written part, where the text's defs lie -/
structure Gh where
  K : PySem.W.Frag
  fa : Nat → Option Addr
  T : List (Addr × Str)
  ex : Option (Addr × Xc)

mutual
inductive Rep (g : Gh) (F : Addr → Prop) (β : List Addr) (H : Hp) : V → D → Prop
  | non : Rep g F β H .non .non
  | bl (b : Bool) : Rep g F β H (.bl b) (.bl b)
  | int (i : Int) : Rep g F β H (.int i) (.int i)
  | str (x : Str) : Rep g F β H (.str x) (.str x)
  | tup {a : Addr} {us : List V} {ds : List D} : SqT g.K H a us → RepAll g F β H us ds → Rep g F β H (.ref a) (.tup ds)
  | scr {a : Addr} {ns : List Int} : ((F a ∧ Rd H a (.lst (ns.map V.int))) ∨ SqL g.K (fun _ => none) a (ns.map V.int)) → Rep g F β H (.ref a) (.scr ns)
  | lst {a : Addr} {us : List V} {ds : List D} : H a = some (.lst us) → F a → RepAll g F β H us ds → Rep g F β H (.ref a) (.lst ds)
  | dK {a : Addr} {ks : List (Key × V)} {ds : List (Key × D)} : H a = some (.dK ks) → F a → ks.map (·.1) = ds.map (·.1) → RepAll g F β H (ks.map (·.2)) (ds.map (·.2)) → Rep g F β H (.ref a) (.dK ds)
  | dT {a : Addr} {ks : List (List Key × V)} {ds : List (List Key × D)} : H a = some (.dT ks) → F a → ks.map (·.1) = ds.map (·.1) → RepAll g F β H (ks.map (·.2)) (ds.map (·.2)) → Rep g F β H (.ref a) (.dT ds)
  | box {a : Addr} {k : Nat} : β[k]? = some a → Rep g F β H (.ref a) (.box k)
  | fn {a : Addr} {k : Nat} : g.fa k = some a → Rep g F β H (.ref a) (.fn k)
  | exn {a : Addr} {x : Xc} : g.ex = some (a, x) → Rep g F β H (.ref a) (.exn x)
inductive RepAll (g : Gh) (F : Addr → Prop) (β : List Addr) (H : Hp) : List V → List D → Prop
  | nil : RepAll g F β H [] []
  | cons {v : V} {vs : List V} {d : D} {ds : List D} : Rep g F β H v d → RepAll g F β H vs ds → RepAll g F β H (v :: vs) (d :: ds)
end

/-- a table of code objects -/
def isT : HO → Prop
  | .tbl _ => True
  | _ => False
/-- what keeps a representation -/
structure Keeps (K : PySem.W.Frag) (F : Addr → Prop) (β : List Addr) (H : Hp) (F' : Addr → Prop) (β' : List Addr) (H' : Hp) : Prop where
  f : ∀ p, F p → F' p
  t : ∀ a us, SqT K H a us → SqT K H' a us
  d : ∀ a u, F a → ¬ isT u → H a = some u → H' a = some u
  z : ∀ a o u, H a = some (.frz o u) → H' a = some (.frz o u)
  b : ∀ (k : Nat) a, β[k]? = some a → β'[k]? = some a

section
variable {g : Gh} {F F' : Addr → Prop} {β β' : List Addr} {H H' : Hp}
mutual
theorem Rep.keep (k : Keeps g.K F β H F' β' H') : ∀ {v : V} {d : D}, Rep g F β H v d → Rep g F' β' H' v d
  | _, _, .non => .non
  | _, _, .bl b => .bl b
  | _, _, .int i => .int i
  | _, _, .str x => .str x
  | _, _, .tup s r => .tup (k.t _ _ s) (RepAll.keep k r)
  | _, _, .scr e => .scr (e.imp (fun ⟨f, r⟩ => ⟨k.f _ f, r.elim (fun r => .inl (k.d _ _ f (fun z => z) r)) fun ⟨o, r⟩ => .inr ⟨o, k.d _ _ f (fun z => z) r⟩⟩) id)
  | _, _, .lst s f r => .lst (k.d _ _ f (fun z => z) s) (k.f _ f) (RepAll.keep k r)
  | _, _, .dK s f e r => .dK (k.d _ _ f (fun z => z) s) (k.f _ f) e (RepAll.keep k r)
  | _, _, .dT s f e r => .dT (k.d _ _ f (fun z => z) s) (k.f _ f) e (RepAll.keep k r)
  | _, _, .box e => .box (k.b _ _ e)
  | _, _, .fn e => .fn e
  | _, _, .exn e => .exn e
theorem RepAll.keep (k : Keeps g.K F β H F' β' H') : ∀ {vs : List V} {ds : List D}, RepAll g F β H vs ds → RepAll g F' β' H' vs ds
  | _, _, .nil => .nil
  | _, _, .cons a b => .cons (Rep.keep k a) (RepAll.keep k b)
end
theorem Keeps.up (h : ∀ p, F p → F' p) : Keeps g.K F β H F' β H := ⟨h, fun _ _ s => s, fun _ _ _ _ s => s, fun _ _ _ s => s, fun _ _ e => e⟩
theorem Rep.up (h : ∀ p, F p → F' p) {v : V} {d : D} (r : Rep g F β H v d) : Rep g F' β H v d := r.keep (.up h)
theorem RepAll.up (h : ∀ p, F p → F' p) {vs : List V} {ds : List D} (r : RepAll g F β H vs ds) : RepAll g F' β H vs ds := r.keep (.up h)
theorem RepAll.length {vs : List V} {ds : List D} (r : RepAll g F β H vs ds) : vs.length = ds.length := by
  induction vs generalizing ds with
  | nil => cases r; rfl
  | cons v vs ih => cases r with | cons a b => simp [ih b]
theorem RepAll.append {vs ws : List V} {ds es : List D} (r : RepAll g F β H vs ds) (q : RepAll g F β H ws es) : RepAll g F β H (vs ++ ws) (ds ++ es) := by
  induction vs generalizing ds with
  | nil => cases r; exact q
  | cons v vs ih => cases r with | cons a b => exact .cons a (ih b)
theorem RepAll.get {vs : List V} {ds : List D} (r : RepAll g F β H vs ds) {i : Nat} {d : D} (e : ds[i]? = some d) : ∃ v, vs[i]? = some v ∧ Rep g F β H v d := by
  induction vs generalizing ds i with
  | nil => cases r; simp at e
  | cons v vs ih =>
    cases r with
    | cons a b =>
      cases i with
      | zero => simp at e; subst e; exact ⟨v, rfl, a⟩
      | succ i => simpa using ih b (by simpa using e)
theorem RepAll.get' {vs : List V} {ds : List D} (r : RepAll g F β H vs ds) {i : Nat} {v : V} (e : vs[i]? = some v) : ∃ d, ds[i]? = some d ∧ Rep g F β H v d := by
  induction vs generalizing ds i with
  | nil => cases r; simp at e
  | cons v vs ih =>
    cases r with
    | cons a b =>
      cases i with
      | zero => simp at e; subst e; exact ⟨_, rfl, a⟩
      | succ i => simpa using ih b (by simpa using e)
theorem RepAll.take {vs : List V} {ds : List D} (r : RepAll g F β H vs ds) (n : Nat) : RepAll g F β H (vs.take n) (ds.take n) := by
  induction vs generalizing ds n with
  | nil => cases r; simp; exact .nil
  | cons v vs ih =>
    cases r with
    | cons a b =>
      cases n with
      | zero => exact .nil
      | succ n => exact .cons a (ih b n)
theorem RepAll.drop {vs : List V} {ds : List D} (r : RepAll g F β H vs ds) (n : Nat) : RepAll g F β H (vs.drop n) (ds.drop n) := by
  induction vs generalizing ds n with
  | nil => cases r; simp; exact .nil
  | cons v vs ih =>
    cases r with
    | cons a b =>
      cases n with
      | zero => exact .cons a b
      | succ n => exact ih b n
theorem RepAll.set {vs : List V} {ds : List D} (r : RepAll g F β H vs ds) (i : Nat) {v : V} {d : D} (q : Rep g F β H v d) : RepAll g F β H (vs.set i v) (ds.set i d) := by
  induction vs generalizing ds i with
  | nil => cases r; exact .nil
  | cons w vs ih =>
    cases r with
    | cons a b =>
      cases i with
      | zero => exact .cons q b
      | succ i => exact .cons a (ih b i)
theorem RepAll.of_get {vs : List V} {ds : List D} (hl : vs.length = ds.length) (h : ∀ (i : Nat) v d, vs[i]? = some v → ds[i]? = some d → Rep g F β H v d) : RepAll g F β H vs ds := by
  induction vs generalizing ds with
  | nil => cases ds with
    | nil => exact .nil
    | cons d ds => simp at hl
  | cons v vs ih => cases ds with
    | nil => simp at hl
    | cons d ds => exact .cons (h 0 v d rfl rfl) (ih (by simpa using hl) fun i v d e1 e2 => h (i + 1) v d (by simpa using e1) (by simpa using e2))
theorem RepAll.ints {vs : List V} {ns : List Int} (r : RepAll g F β H vs (ns.map D.int)) : vs = ns.map V.int := by
  induction ns generalizing vs with
  | nil => cases r; rfl
  | cons n ns ih => cases r with | cons a b => cases a; simp [ih b]
theorem RepAll.of_ints {ns : List Int} : RepAll g F β H (ns.map V.int) (ns.map D.int) := by
  induction ns with
  | nil => exact .nil
  | cons n ns ih => exact .cons (.int n) ih
end

/-! ### trees without lists, dicts -/
mutual
def D.flat : D → Bool
  | .tup xs => flats xs
  | .lst _ => false
  | .dK _ => false
  | .dT _ => false
  | .scr _ => false
  | _ => true
def flats : List D → Bool
  | [] => true
  | d :: ds => d.flat && flats ds
end
section
variable {g : Gh} {F F' : Addr → Prop} {β : List Addr} {H : Hp}
mutual
theorem Rep.flat : ∀ {v : V} {d : D}, Rep g F β H v d → d.flat = true → Rep g F' β H v d
  | _, _, .non, _ => .non
  | _, _, .bl b, _ => .bl b
  | _, _, .int i, _ => .int i
  | _, _, .str x, _ => .str x
  | _, _, .tup s r, h => .tup s (RepAll.flat r (by simpa [D.flat] using h))
  | _, _, .scr e, h => by simp [D.flat] at h
  | _, _, .lst s f r, h => by simp [D.flat] at h
  | _, _, .dK s f e r, h => by simp [D.flat] at h
  | _, _, .dT s f e r, h => by simp [D.flat] at h
  | _, _, .box e, _ => .box e
  | _, _, .fn e, _ => .fn e
  | _, _, .exn e, _ => .exn e
theorem RepAll.flat : ∀ {vs : List V} {ds : List D}, RepAll g F β H vs ds → flats ds = true → RepAll g F' β H vs ds
  | _, _, .nil, _ => .nil
  | _, _, .cons a b, h => by
    have h' := Bool.and_eq_true_iff.mp (by simpa [flats] using h)
    exact .cons (Rep.flat a h'.1) (RepAll.flat b h'.2)
end
end

/-! ### steps of the heap -/
/-- boxes: where they lie, what they hold -/
abbrev Bx := List (List Int)
structure BoxR (g : Gh) (F : Addr → Prop) (β : List Addr) (H : Hp) (bx : Bx) : Prop where
  len : β.length = bx.length
  nd : β.Nodup
  at_ : ∀ (k : Nat) a, β[k]? = some a → ¬ F a ∧ ∃ ns : List Int, bx[k]? = some ns ∧ H a = some (.lst (ns.map V.int))
  th : ∀ p, F p → ∃ o, H p = some o
  tab : LamX.Tabs g.T H

/-- from a state to a later one: what may be changed is M -/
structure Ext (F M : Addr → Prop) (H : Hp) (F' : Addr → Prop) (H' : Hp) : Prop where
  hp : ∀ p o, H p = some o → ¬ M p → H' p = some o ∨ (isT o ∧ ∃ ps, H' p = some (.tbl ps))
  fm : ∀ p, F p → F' p
  fn : ∀ p, F' p → F p ∨ M p ∨ H p = none
structure Good (F M : Addr → Prop) (H : Hp) : Prop where
  m : ∀ p, M p → Mut (H p)
  f : ∀ p, F p → ¬ M p

section
variable {g : Gh} {F F' F'' M : Addr → Prop} {β β' β'' : List Addr} {H H' H'' : Hp}
theorem Ext.refl : Ext F M H F H := ⟨fun _ _ e _ => .inl e, fun _ f => f, fun _ f => .inl f⟩
theorem Ext.at_ (e : Ext F M H F' H') {p : Addr} {o : HO} (h : H p = some o) (n : ¬ M p) (t : ¬ isT o) : H' p = some o := (e.hp p o h n).elim id fun z => absurd z.1 t
theorem Ext.live (e : Ext F M H F' H') {p : Addr} {o : HO} (h : H p = some o) (n : ¬ M p) : ∃ o', H' p = some o' := (e.hp p o h n).elim (fun z => ⟨_, z⟩) fun z => let ⟨_, ps, q⟩ := z; ⟨_, q⟩
theorem Ext.keeps {K : PySem.W.Frag} (e : Ext F M H F' H') (gd : Good F M H) (hb : ∀ (k : Nat) a, β[k]? = some a → β'[k]? = some a) : Keeps K F β H F' β' H' := by
  have nm : ∀ a o, H a = some o → ¬ Mut (some o) → ¬ M a := fun a o h n m => n (h ▸ gd.m a m)
  refine ⟨e.fm, fun a us s => ?_, fun a u f t r => e.at_ r (gd.f a f) t, fun a o u r => e.at_ r (nm a _ r fun z => z) fun z => z, hb⟩
  rcases s with (s | ⟨o, s⟩) | s
  · exact .inl (.inl (e.at_ s (nm a _ s fun z => z) fun z => z))
  · exact .inl (.inr ⟨o, e.at_ s (nm a _ s fun z => z) fun z => z⟩)
  · exact .inr s
end

/-- a step of an expression: only boxes may be changed; bx' the boxes behind it -/
structure Stp (g : Gh) (F : Addr → Prop) (β : List Addr) (H : Hp) (F' : Addr → Prop) (β' : List Addr) (H' : Hp) (bx' : Bx) : Prop where
  ext : Ext F (· ∈ β) H F' H'
  pre : ∀ (k : Nat) a, β[k]? = some a → β'[k]? = some a
  nw : ∀ p ∈ β', p ∈ β ∨ H p = none
  box : BoxR g F' β' H' bx'

section
variable {g : Gh} {F F' F'' M : Addr → Prop} {β β' β'' : List Addr} {H H' H'' : Hp} {bx bx' bx'' : Bx}
theorem BoxR.mem (b : BoxR g F β H bx) {p : Addr} (h : p ∈ β) : ¬ F p ∧ ∃ ns : List Int, H p = some (.lst (ns.map V.int)) := by
  obtain ⟨k, hk⟩ := List.mem_iff_getElem?.mp h
  obtain ⟨n, ns, _, e⟩ := b.at_ k p hk
  exact ⟨n, ns, e⟩
theorem BoxR.good (b : BoxR g F β H bx) : Good F (· ∈ β) H := ⟨fun p h => by
  obtain ⟨_, ns, e⟩ := b.mem h
  rw [e]; trivial, fun p f h => (b.mem h).1 f⟩
theorem Stp.refl (b : BoxR g F β H bx) : Stp g F β H F β H bx := ⟨Ext.refl, fun _ _ e => e, fun _ h => .inl h, b⟩
theorem Stp.trans (a : Stp g F β H F' β' H' bx') (b : Stp g F' β' H' F'' β'' H'' bx'') : Stp g F β H F'' β'' H'' bx'' := by
  have bk : ∀ p, H' p = none → ¬ p ∈ β → H p = none := fun p h n => by
    cases e : H p with
    | none => rfl
    | some o =>
      obtain ⟨o', q⟩ := a.ext.live e n
      rw [q] at h; cases h
  have mb : ∀ p, p ∈ β' → p ∈ β ∨ H p = none := a.nw
  refine ⟨⟨fun p o e n => ?_, fun p f => b.ext.fm p (a.ext.fm p f), fun p f => ?_⟩, fun k x e => b.pre k x (a.pre k x e), fun p h => ?_, b.box⟩
  · have nb : ¬ p ∈ β' := fun m => by
      rcases mb p m with z | z
      · exact n z
      · rw [z] at e; cases e
    rcases a.ext.hp p o e n with z | ⟨t, ps, z⟩
    · exact b.ext.hp p o z nb
    · rcases b.ext.hp p _ z nb with y | ⟨_, ps', y⟩
      · exact .inr ⟨t, ps, y⟩
      · exact .inr ⟨t, ps', y⟩
  · rcases b.ext.fn p f with z | z | z
    · exact a.ext.fn p z
    · rcases mb p z with q | q
      · exact .inr (.inl q)
      · exact .inr (.inr q)
    · by_cases n : p ∈ β
      · exact .inr (.inl n)
      · exact .inr (.inr (bk p z n))
  · rcases b.nw p h with z | z
    · exact mb p z
    · by_cases n : p ∈ β
      · exact .inl n
      · exact .inr (bk p z n)
theorem Stp.keeps {K : PySem.W.Frag} (a : Stp g F β H F' β' H' bx') (b : BoxR g F β H bx) : Keeps K F β H F' β' H' := a.ext.keeps b.good a.pre
/-- .. with more frozen on both sides -/
theorem Stp.keepsL {K : PySem.W.Frag} {L : Addr → Prop} (a : Stp g F β H F' β' H' bx') (b : BoxR g F β H bx) (hL : ∀ p, L p → ¬ p ∈ β) : Keeps K (fun p => F p ∨ L p) β H (fun p => F' p ∨ L p) β' H' := by
  have e : Ext (fun p => F p ∨ L p) (· ∈ β) H (fun p => F' p ∨ L p) H' := ⟨a.ext.hp, fun p f => f.imp (a.ext.fm p) id, fun p f => by
    rcases f with f | f
    · rcases a.ext.fn p f with z | z
      · exact .inl (.inl z)
      · exact .inr z
    · exact .inl (.inr f)⟩
  exact e.keeps ⟨b.good.m, fun p f m => f.elim (fun z => b.good.f p z m) fun z => hL p z m⟩ a.pre
/-- a new thing, frozen or not -/
theorem Stp.new (b : BoxR g F β H bx) {p : Addr} {o : HO} (h : H p = none) : Stp g F β H F β (upd H p o) bx := by
  refine ⟨⟨fun q u e _ => .inl ?_, fun _ f => f, fun _ f => .inl f⟩, fun _ _ e => e, fun _ m => .inl m, ⟨b.len, b.nd, fun k a e => ?_, fun q f => ?_, b.tab.ext fun q u e => ?_⟩⟩
  · rw [upd_ne (ne_of_none e h)]; exact e
  · obtain ⟨n, ns, e1, e2⟩ := b.at_ k a e
    exact ⟨n, ns, e1, by rw [upd_ne (ne_of_none e2 h)]; exact e2⟩
  · obtain ⟨u, e⟩ := b.th q f
    exact ⟨u, by rw [upd_ne (ne_of_none e h)]; exact e⟩
  · rw [upd_ne (ne_of_none e h)]; exact e
/-- one more is frozen -/
theorem Stp.freeze (s : Stp g F β H F' β' H' bx') {p : Addr} (h : H p = none) (nb : ¬ p ∈ β') (th : ∃ o, H' p = some o) : Stp g F β H (fun q => F' q ∨ q = p) β' H' bx' := by
  refine ⟨⟨s.ext.hp, fun q f => .inl (s.ext.fm q f), fun q f => ?_⟩, s.pre, s.nw, ⟨s.box.len, s.box.nd, fun k a e => ?_, fun q f => f.elim (s.box.th q) fun e => e ▸ th, s.box.tab⟩⟩
  · rcases f with f | f
    · exact s.ext.fn q f
    · subst f; exact .inr (.inr h)
  · obtain ⟨n, ns, e1, e2⟩ := s.box.at_ k a e
    exact ⟨fun z => z.elim n fun q => nb (by rw [← q]; exact List.mem_of_getElem? e), ns, e1, e2⟩
end
end Pv

/-! Pv.B: slots, results, what an expression's value function promises. -/
namespace Pv
open L2 PySem PyProof.Rows PySem.Spec

inductive Slot where
  | none | val (d : D) | own (d : D)
  deriving Inhabited
abbrev Vs := List Slot
/-- how a result lies: shared, a new object, the list that slot i owns -/
inductive Prov where
  | sh | fr | ow (i : Nat)
structure ER where
  d : D
  l : List Nat
  pv : Prov
  bx : Bx
inductive Res (α : Type) where
  | ok (a : α) | exc (x : Xc) (bx : Bx) | stuck
/-- a def's result: the value, whether it is a new object of its own -/
structure FR where
  d : D
  fr : Bool
  bx : Bx
abbrev Fns := Nat → List D → Bx → Res FR

structure Gx extends Gh where
  ca : Nat → Addr

def Lent (vs : Vs) (σ : L2.St) (l : List Nat) : Addr → Prop := fun p => ∃ i ∈ l, (∃ d, vs[i]? = some (.own d)) ∧ σ[i]? = some (some (.ref p))
def OwnR (g : Gh) (F : Addr → Prop) (β : List Addr) (H : Hp) (p : Addr) : D → Prop
  | .lst ds => ∃ us, H p = some (.lst us) ∧ RepAll g F β H us ds
  | .dK ds => ∃ ks : List (Key × V), H p = some (.dK ks) ∧ ks.map (·.1) = ds.map (·.1) ∧ RepAll g F β H (ks.map (·.2)) (ds.map (·.2))
  | .dT ds => ∃ ks : List (List Key × V), H p = some (.dT ks) ∧ ks.map (·.1) = ds.map (·.1) ∧ RepAll g F β H (ks.map (·.2)) (ds.map (·.2))
  | _ => False

/-- the base of a run: a def's entry, a loop's -/
structure Bse where
  F : Addr → Prop
  M : Addr → Prop
  β : List Addr
  H : Hp
def SlotR (g : Gh) (b : Bse) (F : Addr → Prop) (β : List Addr) (H : Hp) (σ : L2.St) (i : Nat) : Slot → Prop
  | .none => True
  | .val d => ∃ v, σ[i]? = some (some v) ∧ Rep g F β H v d
  | .own d => ∃ p, σ[i]? = some (some (.ref p)) ∧ ¬ F p ∧ ¬ p ∈ β ∧ (b.M p ∨ b.H p = none) ∧ OwnR g F β H p d
structure RelS (g : Gh) (b : Bse) (F : Addr → Prop) (β : List Addr) (H : Hp) (σ : L2.St) (vs : Vs) (bx : Bx) : Prop where
  good : Good b.F b.M b.H
  ext : Ext b.F b.M b.H F H
  pre : ∀ (k : Nat) a, b.β[k]? = some a → β[k]? = some a
  nw : ∀ p ∈ β, b.M p ∨ b.H p = none
  box : BoxR g F β H bx
  len : vs.length = σ.length
  slot : ∀ (i : Nat) (s : Slot), vs[i]? = some s → SlotR g b F β H σ i s
  inj : ∀ (i j : Nat) (di dj : D) (p : Addr), vs[i]? = some (.own di) → vs[j]? = some (.own dj) → σ[i]? = some (some (.ref p)) → σ[j]? = some (some (.ref p)) → i = j

section
variable {g : Gh} {b : Bse} {F F' F'' M : Addr → Prop} {β β' β'' : List Addr} {H H' H'' : Hp} {bx bx' bx'' : Bx} {σ : L2.St} {vs : Vs} {p : Addr} {d : D}

theorem OwnR.there (h : OwnR g F β H p d) : ∃ o, H p = some o ∧ Mut (some o) := by
  cases d <;> first | exact False.elim h | (obtain ⟨us, e, _⟩ := h; exact ⟨_, e, trivial⟩)
theorem OwnR.keep (h : OwnR g F β H p d) (k : Keeps g.K F β H F' β' H') (e : H' p = H p) : OwnR g F' β' H' p d := by
  cases d <;> first
    | exact False.elim h
    | (obtain ⟨us, e1, r⟩ := h; exact ⟨us, e.trans e1, RepAll.keep k r⟩)
    | (obtain ⟨us, e1, q, r⟩ := h; exact ⟨us, e.trans e1, q, RepAll.keep k r⟩)
theorem OwnR.up (h : OwnR g F β H p d) (hu : ∀ p, F p → F' p) : OwnR g F' β H p d := h.keep (.up hu) rfl
/-- a list, a dict -/
def plainO : HO → Prop
  | .lst _ => True
  | .dK _ => True
  | .dT _ => True
  | _ => False
theorem OwnR.thereP (h : OwnR g F β H p d) : ∃ o, H p = some o ∧ plainO o := by
  cases d <;> first | exact False.elim h | (obtain ⟨us, e, _⟩ := h; exact ⟨_, e, trivial⟩)
theorem tabs_upd {T : List (Addr × Str)} {o o' : HO} (t : LamX.Tabs T H) (hp : H p = some o) (po : plainO o) : LamX.Tabs T (upd H p o') := fun q hq => by
  obtain ⟨ps, h1, h2, h3⟩ := t q hq
  have n1 : q.1 ≠ p := fun z => by rw [z, hp] at h1; cases h1; exact po
  refine ⟨ps, by rw [upd_ne n1]; exact h1, h2, fun pos cv hc => ?_⟩
  obtain ⟨c, e1, e2⟩ := h3 pos cv hc
  exact ⟨c, e1, by rw [upd_ne (fun z => by rw [z, hp] at e2; cases e2; exact po)]; exact e2⟩
/-- frozen -/
theorem OwnR.rep (h : OwnR g F β H p d) (hf : F p) : Rep g F β H (.ref p) d := by
  cases d <;> first
    | exact False.elim h
    | (obtain ⟨us, e1, r⟩ := h; exact .lst e1 hf r)
    | (obtain ⟨us, e1, q, r⟩ := h; exact .dK e1 hf q r)
    | (obtain ⟨us, e1, q, r⟩ := h; exact .dT e1 hf q r)

theorem Mut.nt {o : HO} (m : Mut (some o)) : ¬ isT o := by
  cases o <;> first | exact m.elim | exact fun z => z
theorem Stp.at_ (s : Stp g F β H F' β' H' bx') {o : HO} (e : H p = some o) (n : ¬ p ∈ β) (t : ¬ isT o) : H' p = H p := by rw [e]; exact s.ext.at_ e n t
theorem Stp.notF (s : Stp g F β H F' β' H' bx') {o : HO} (e : H p = some o) (n : ¬ p ∈ β) (f : ¬ F p) : ¬ F' p := fun z => by
  rcases s.ext.fn p z with q | q | q
  · exact f q
  · exact n q
  · rw [q] at e; cases e
theorem Stp.notB (s : Stp g F β H F' β' H' bx') {o : HO} (e : H p = some o) (n : ¬ p ∈ β) : ¬ p ∈ β' := fun z => by
  rcases s.nw p z with q | q
  · exact n q
  · rw [q] at e; cases e

theorem RelS.own (R : RelS g b F β H σ vs bx) {i : Nat} (e : vs[i]? = some (.own d)) : ∃ p, σ[i]? = some (some (.ref p)) ∧ ¬ F p ∧ ¬ p ∈ β ∧ (b.M p ∨ b.H p = none) ∧ OwnR g F β H p d := R.slot i _ e
theorem RelS.lent (R : RelS g b F β H σ vs bx) {l : List Nat} (h : Lent vs σ l p) : ¬ F p ∧ ¬ p ∈ β ∧ ∃ o, H p = some o ∧ Mut (some o) := by
  obtain ⟨i, _, ⟨d, e⟩, es⟩ := h
  obtain ⟨q, e1, nf, nb, _, o⟩ := R.own e
  rw [e1] at es; cases es
  exact ⟨nf, nb, o.there⟩
/-- a step of an expression -/
theorem RelS.stp (R : RelS g b F β H σ vs bx) (s : Stp g F β H F' β' H' bx') : RelS g b F' β' H' σ vs bx' := by
  have bk : ∀ p, H p = none → b.M p ∨ b.H p = none := fun p h => by
    cases e : b.H p with
    | none => exact .inr rfl
    | some o =>
      refine Classical.byContradiction fun n => ?_
      obtain ⟨o', this⟩ := R.ext.live e fun m => n (.inl m)
      rw [h] at this; cases this
  refine ⟨R.good, ⟨fun p o e n => ?_, fun p f => s.ext.fm p (R.ext.fm p f), fun p f => ?_⟩, fun k a e => s.pre k a (R.pre k a e), fun p h => ?_, s.box, R.len, fun i sl e => ?_, R.inj⟩
  · have nb : ¬ p ∈ β := fun m => by
      rcases R.nw p m with z | z
      · exact n z
      · rw [z] at e; cases e
    rcases R.ext.hp p o e n with z | ⟨t, ps, z⟩
    · exact s.ext.hp p o z nb
    · rcases s.ext.hp p _ z nb with y | ⟨_, ps', y⟩
      · exact .inr ⟨t, ps, y⟩
      · exact .inr ⟨t, ps', y⟩
  · rcases s.ext.fn p f with z | z | z
    · exact R.ext.fn p z
    · rcases R.nw p z with q | q
      · exact .inr (.inl q)
      · exact .inr (.inr q)
    · exact .inr (bk p z)
  · rcases s.nw p h with z | z
    · exact R.nw p z
    · exact bk p z
  · have q := R.slot i sl e
    cases sl with
    | none => trivial
    | val d =>
      obtain ⟨v, e1, r⟩ := q
      exact ⟨v, e1, r.keep (s.keeps R.box)⟩
    | own d =>
      obtain ⟨p, e1, nf, nb, m, o⟩ := q
      obtain ⟨ob, e2, mu⟩ := o.there
      exact ⟨p, e1, s.notF e2 nb nf, s.notB e2 nb, m, o.keep (s.keeps R.box) (s.at_ e2 nb (Mut.nt mu))⟩
end

/-- how a result lies -/
def ResR (g : Gh) (vs : Vs) (σ : L2.St) (H : Hp) (F' : Addr → Prop) (β' : List Addr) (H' : Hp) (r : ER) (v : V) : Prop :=
  match r.pv with
  | .sh => Rep g (fun p => F' p ∨ Lent vs σ r.l p) β' H' v r.d
  | .fr => ∃ p, v = .ref p ∧ ¬ F' p ∧ H p = none ∧ ¬ p ∈ β' ∧ OwnR g (fun p => F' p ∨ Lent vs σ r.l p) β' H' p r.d
  | .ow i => vs[i]? = some (.own r.d) ∧ σ[i]? = some (some v)
def ER.ls (r : ER) : List Nat := match r.pv with
  | .ow i => i :: r.l
  | _ => r.l
/-- what can be read of a value: its items -/
def Con (g : Gh) (F : Addr → Prop) (β : List Addr) (H : Hp) (v : V) : D → Prop
  | .lst ds => ∃ p us, v = .ref p ∧ H p = some (.lst us) ∧ ¬ p ∈ β ∧ RepAll g F β H us ds
  | .dK ds => ∃ (p : Addr) (ks : List (Key × V)), v = .ref p ∧ H p = some (.dK ks) ∧ ¬ p ∈ β ∧ ks.map (·.1) = ds.map (·.1) ∧ RepAll g F β H (ks.map (·.2)) (ds.map (·.2))
  | .dT ds => ∃ (p : Addr) (ks : List (List Key × V)), v = .ref p ∧ H p = some (.dT ks) ∧ ¬ p ∈ β ∧ ks.map (·.1) = ds.map (·.1) ∧ RepAll g F β H (ks.map (·.2)) (ds.map (·.2))
  | d => Rep g F β H v d
inductive ConAll (g : Gh) (F : Addr → Prop) (β : List Addr) (H : Hp) : List V → List D → Prop
  | nil : ConAll g F β H [] []
  | cons {v : V} {vs : List V} {d : D} {ds : List D} : Con g F β H v d → ConAll g F β H vs ds → ConAll g F β H (v :: vs) (d :: ds)

section
variable {g : Gh} {b : Bse} {F F' F'' L M : Addr → Prop} {β β' β'' : List Addr} {H H' H'' : Hp} {bx bx' bx'' : Bx} {σ : L2.St} {vs : Vs} {p : Addr} {d : D} {v : V}
theorem Rep.con (r : Rep g F β H v d) (h : ∀ p, F p → ¬ p ∈ β) : Con g F β H v d := by
  cases r with
  | lst s f r => exact ⟨_, _, rfl, s, h _ f, r⟩
  | dK s f e r => exact ⟨_, _, rfl, s, h _ f, e, r⟩
  | dT s f e r => exact ⟨_, _, rfl, s, h _ f, e, r⟩
  | _ => constructor <;> assumption
theorem OwnR.con (h : OwnR g F β H p d) (n : ¬ p ∈ β) : Con g F β H (.ref p) d := by
  cases d <;> first
    | exact False.elim h
    | (obtain ⟨us, e1, r⟩ := h; exact ⟨_, us, rfl, e1, n, r⟩)
    | (obtain ⟨us, e1, q, r⟩ := h; exact ⟨_, us, rfl, e1, n, q, r⟩)
theorem Stp.rd (s : Stp g F β H F' β' H' bx') {u : HO} (n : ¬ p ∈ β) (r : H p = some u) (t : ¬ isT u := by exact fun z => z) : H' p = some u ∧ ¬ p ∈ β' := ⟨s.ext.at_ r n t, s.notB r n⟩
theorem Con.keep (c : Con g (fun p => F p ∨ L p) β H v d) (s : Stp g F β H F' β' H' bx') (b : BoxR g F β H bx) (hL : ∀ p, L p → ¬ p ∈ β) : Con g (fun p => F' p ∨ L p) β' H' v d := by
  have k := s.keepsL (K := g.K) b hL
  cases d with
  | lst ds =>
    obtain ⟨p, us, e, r, n, q⟩ := c
    exact ⟨p, us, e, (s.rd n r).1, (s.rd n r).2, RepAll.keep k q⟩
  | dK ds =>
    obtain ⟨p, us, e, r, n, e2, q⟩ := c
    exact ⟨p, us, e, (s.rd n r).1, (s.rd n r).2, e2, RepAll.keep k q⟩
  | dT ds =>
    obtain ⟨p, us, e, r, n, e2, q⟩ := c
    exact ⟨p, us, e, (s.rd n r).1, (s.rd n r).2, e2, RepAll.keep k q⟩
  | _ => exact Rep.keep k c
theorem Con.up (c : Con g F β H v d) (h : ∀ p, F p → F' p) : Con g F' β H v d := by
  cases d with
  | lst ds => obtain ⟨p, us, e, r, n, q⟩ := c; exact ⟨p, us, e, r, n, q.up h⟩
  | dK ds => obtain ⟨p, us, e, r, n, e2, q⟩ := c; exact ⟨p, us, e, r, n, e2, q.up h⟩
  | dT ds => obtain ⟨p, us, e, r, n, e2, q⟩ := c; exact ⟨p, us, e, r, n, e2, q.up h⟩
  | _ => exact Rep.up h c
theorem ConAll.up {xs : List V} {ds : List D} (c : ConAll g F β H xs ds) (h : ∀ p, F p → F' p) : ConAll g F' β H xs ds := by
  induction c with
  | nil => exact .nil
  | cons a _ ih => exact .cons (a.up h) ih

theorem Lent.up {l l' : List Nat} (h : ∀ i ∈ l, i ∈ l') {p : Addr} (x : Lent vs σ l p) : Lent vs σ l' p := let ⟨i, m, q⟩ := x; ⟨i, h i m, q⟩

/-- a result as a value that may be held: a new object is frozen -/
theorem ResR.shr {r : ER} (R : RelS g b F β H σ vs bx) (s : Stp g F β H F' β' H' r.bx) (x : ResR g vs σ H F' β' H' r v) :
    ∃ F2, Stp g F β H F2 β' H' r.bx ∧ (∀ p, F' p → F2 p) ∧ Rep g (fun p => F2 p ∨ Lent vs σ r.ls p) β' H' v r.d := by
  unfold ResR at x
  cases hp : r.pv with
  | sh =>
    rw [hp] at x
    refine ⟨F', s, fun _ f => f, ?_⟩
    have e : r.ls = r.l := by unfold ER.ls; rw [hp]
    rw [e]; exact x
  | fr =>
    rw [hp] at x
    obtain ⟨p, rfl, nf, hn, nb, o⟩ := x
    refine ⟨fun q => F' q ∨ q = p, s.freeze hn nb (let ⟨o, e, _⟩ := o.there; ⟨o, e⟩), fun _ f => .inl f, ?_⟩
    have e : r.ls = r.l := by unfold ER.ls; rw [hp]
    rw [e]
    exact (o.up fun q f => f.imp .inl id).rep (.inl (.inr rfl))
  | ow i =>
    rw [hp] at x
    obtain ⟨e1, e2⟩ := x
    refine ⟨F', s, fun _ f => f, ?_⟩
    have e : r.ls = i :: r.l := by unfold ER.ls; rw [hp]
    rw [e]
    obtain ⟨p, e3, _, _, _, o⟩ := (R.stp s).own e1
    rw [e2] at e3; cases e3
    exact (o.up fun q f => .inl f).rep (.inr ⟨i, List.mem_cons_self, ⟨_, e1⟩, e2⟩)
/-- a result as a thing whose items are read -/
theorem ResR.con {r : ER} (R : RelS g b F β H σ vs bx) (s : Stp g F β H F' β' H' r.bx) (x : ResR g vs σ H F' β' H' r v) :
    Con g (fun p => F' p ∨ Lent vs σ r.l p) β' H' v r.d := by
  have R' := R.stp s
  unfold ResR at x
  cases hp : r.pv with
  | sh =>
    rw [hp] at x
    exact x.con fun p f m => f.elim (fun z => R'.box.good.f p z m) fun z => (R'.lent z).2.1 m
  | fr =>
    rw [hp] at x
    obtain ⟨p, rfl, nf, hn, nb, o⟩ := x
    exact o.con nb
  | ow i =>
    rw [hp] at x
    obtain ⟨e1, e2⟩ := x
    obtain ⟨p, e3, _, nb, _, o⟩ := R'.own e1
    rw [e2] at e3; cases e3
    exact (o.up fun q f => .inl f).con nb
end

/-! ### what value functions promise -/
abbrev SemE := Fns → Vs → Bx → Res ER
abbrev SemT := Fns → Vs → Bx → Res (Bool × Bx)
structure AR where
  ds : List D
  l : List Nat
  bx : Bx
abbrev SemA := Fns → Vs → Bx → Res AR
/-- an exception as it lies -/
def XR (g : Gx) (x : Xc) (cls : Value) (d : Option Addr) (H : Hp) : Prop :=
  cls = .ref (g.ca x.c) ∧ match x.pl with
    | none => d = none
    | some (f, i) => ∃ p, d = some p ∧ H p = some (.xd [(f, .int i)])
section
variable (g : Gx) (W : WX) (fns : Fns)
def tEvE (f : SemE) : TE := fun σ H Q => ∃ b F β vs bx, RelS g.toGh b F β H σ vs bx ∧ match f fns vs bx with
  | .ok r => ∀ v F' β' H', Stp g.toGh F β H F' β' H' r.bx → ResR g.toGh vs σ H F' β' H' r v → Q v H'
  | .exc x bx' => ∀ cls d F' β' H', Stp g.toGh F β H F' β' H' bx' → XR g x cls d H' → W cls d σ H'
  | .stuck => False
def tEvT (f : SemT) : TT := fun σ H Q => ∃ b F β vs bx, RelS g.toGh b F β H σ vs bx ∧ match f fns vs bx with
  | .ok r => ∀ F' β' H', Stp g.toGh F β H F' β' H' r.2 → Q r.1 H'
  | .exc x bx' => ∀ cls d F' β' H', Stp g.toGh F β H F' β' H' bx' → XR g x cls d H' → W cls d σ H'
  | .stuck => False
/-- arguments that are held (S), that are read (C) -/
def tEvAS (f : SemA) : TA := fun σ H Q => ∃ b F β vs bx, RelS g.toGh b F β H σ vs bx ∧ match f fns vs bx with
  | .ok r => ∀ xs F' β' H', Stp g.toGh F β H F' β' H' r.bx → RepAll g.toGh (fun p => F' p ∨ Lent vs σ r.l p) β' H' xs r.ds → Q xs H'
  | .exc x bx' => ∀ cls d F' β' H', Stp g.toGh F β H F' β' H' bx' → XR g x cls d H' → W cls d σ H'
  | .stuck => False
def tEvAC (f : SemA) : TA := fun σ H Q => ∃ b F β vs bx, RelS g.toGh b F β H σ vs bx ∧ match f fns vs bx with
  | .ok r => ∀ xs F' β' H', Stp g.toGh F β H F' β' H' r.bx → ConAll g.toGh (fun p => F' p ∨ Lent vs σ r.l p) β' H' xs r.ds → Q xs H'
  | .exc x bx' => ∀ cls d F' β' H', Stp g.toGh F β H F' β' H' bx' → XR g x cls d H' → W cls d σ H'
  | .stuck => False
end

theorem PE.imp {X : Cx} {e : Expr} {t t' : TE} (h : PE X e t) (i : ∀ σ H Q, t' σ H Q → t σ H Q) : PE X e t' := ⟨fun pins s σ H Q I q => h.run pins s σ H Q I (i σ H Q q)⟩
theorem PT.imp {X : Cx} {e : Expr} {t t' : TT} (h : PT X e t) (i : ∀ σ H Q, t' σ H Q → t σ H Q) : PT X e t' := ⟨fun pins s σ H Q I q => h.run pins s σ H Q I (i σ H Q q)⟩
theorem PW.imp {X : Cx} {e : Expr} {t t' : TT} (h : PW X e t) (i : ∀ σ H Q, t' σ H Q → t σ H Q) : PW X e t' := ⟨fun wh pins s σ H Q I q => h.run wh pins s σ H Q I (i σ H Q q)⟩
theorem PA.imp {X : Cx} {es : List Expr} {t t' : TA} (h : PA X es t) (i : ∀ σ H Q, t' σ H Q → t σ H Q) : PA X es t' := ⟨fun pos pins s σ H Q I q => h.run pos pins s σ H Q I (i σ H Q q)⟩
theorem PS.imp {X : Cx} {e : Stmt} {t t' : TS} (h : PS X e t) (i : ∀ D σ H, t' D σ H → t D σ H) : PS X e t' := ⟨fun pins s σ H D I q => h.run pins s σ H D I (i D σ H q)⟩
theorem PSs.imp {X : Cx} {e : List Stmt} {t t' : TS} (h : PSs X e t) (i : ∀ D σ H, t' D σ H → t D σ H) : PSs X e t' := ⟨fun pins s σ H D I q => h.run pins s σ H D I (i D σ H q)⟩
end Pv

/-! Pv.C: operators. -/
namespace Pv
open L2 PySem PyProof.Rows PySem.Spec

def Res.bind {α β : Type} (r : Res α) (k : α → Res β) : Res β := match r with
  | .ok a => k a
  | .exc x bx => .exc x bx
  | .stuck => .stuck
@[simp] theorem bind_ok {α β : Type} (a : α) (k : α → Res β) : (Res.ok a).bind k = k a := rfl
@[simp] theorem bind_exc {α β : Type} (x : Xc) (bx : Bx) (k : α → Res β) : (Res.exc x bx).bind k = .exc x bx := rfl
@[simp] theorem bind_stuck {α β : Type} (k : α → Res β) : (Res.stuck).bind k = .stuck := rfl

def flatEls : D → Bool
  | .lst ds => flats ds
  | .dK ds => flats (ds.map (·.2))
  | .dT ds => flats (ds.map (·.2))
  | d => d.flat
/-- the lists on loan that a result may hold -/
def nrm (d : D) (fr : Bool) (l : List Nat) : List Nat := match l with
  | [] => []
  | l => if (if fr then flatEls d else d.flat) then [] else l

section
variable {g : Gh} {b : Bse} {F F' F'' L M : Addr → Prop} {β β' β'' : List Addr} {H H' H'' : Hp} {bx bx' bx'' : Bx} {σ : L2.St} {vs : Vs} {p : Addr} {d : D} {v : V} {l : List Nat}
theorem Stp.grow (b : BoxR g F β H bx) (s : Same H H') : Stp g F β H F β H' bx :=
  ⟨⟨fun p o e _ => .inl (s p o e), fun _ f => f, fun _ f => .inl f⟩, fun _ _ e => e, fun _ m => .inl m, ⟨b.len, b.nd, fun k a e => by
    obtain ⟨n, ns, e1, e2⟩ := b.at_ k a e
    exact ⟨n, ns, e1, s _ _ e2⟩, fun p f => let ⟨o, e⟩ := b.th p f; ⟨o, s p o e⟩, b.tab.ext s⟩⟩
theorem BoxR.more (b : BoxR g F β H bx) (hL : ∀ p, L p → ¬ p ∈ β) (hT : ∀ p, L p → ∃ o, H p = some o) : BoxR g (fun p => F p ∨ L p) β H bx :=
  ⟨b.len, b.nd, fun k a e => by
    obtain ⟨n, ns, e1, e2⟩ := b.at_ k a e
    exact ⟨fun z => z.elim n fun q => hL a q (List.mem_of_getElem? e), ns, e1, e2⟩, fun p f => f.elim (b.th p) (hT p), b.tab⟩
theorem OwnR.flatEls (h : OwnR g F β H p d) (hf : flatEls d = true) : OwnR g F' β H p d := by
  cases d <;> first
    | exact False.elim h
    | (obtain ⟨us, e1, r⟩ := h; exact ⟨us, e1, RepAll.flat r hf⟩)
    | (obtain ⟨us, e1, q, r⟩ := h; exact ⟨us, e1, q, RepAll.flat r hf⟩)
theorem Rep.nrm (r : Rep g (fun p => F p ∨ Lent vs σ l p) β H v d) : Rep g (fun p => F p ∨ Lent vs σ (nrm d false l) p) β H v d := by
  unfold Pv.nrm
  cases l with
  | nil => exact r
  | cons i l =>
    simp only [Bool.false_eq_true, if_false]
    by_cases h : d.flat = true
    · rw [if_pos h]; exact r.flat h
    · rw [if_neg h]; exact r
theorem OwnR.nrm (r : OwnR g (fun p => F p ∨ Lent vs σ l p) β H p d) : OwnR g (fun p => F p ∨ Lent vs σ (nrm d true l) p) β H p d := by
  unfold Pv.nrm
  cases l with
  | nil => exact r
  | cons i l =>
    simp only [if_true]
    by_cases h : Pv.flatEls d = true
    · rw [if_pos h]; exact r.flatEls h
    · rw [if_neg h]; exact r
theorem same_refl {H : Hp} : Same H H := fun _ _ h => h
theorem same_new {p : Addr} {o : HO} (h : H p = none) : Same H (upd H p o) := fun b u e => by rw [upd_ne (ne_of_none e h)]; exact e
end

/-- what an operation hands on: a value (fr = false) or a new object -/
def OutR (g : Gh) (F : Addr → Prop) (β : List Addr) (H : Hp) (d : D) (fr : Bool) (Q : VK) : Prop :=
  if fr = true then ∀ p H', Same H H' → H p = none → OwnR g F β H' p d → Q (.ref p) H'
  else ∀ v H', Same H H' → Rep g F β H' v d → Q v H'
section
variable {g : Gh} {F : Addr → Prop} {β : List Addr} {H : Hp} {d : D} {Q : VK} {bx : Bx}
theorem OutR.val (h : OutR g F β H d false Q) {v : V} {H' : Hp} (s : Same H H') (r : Rep g F β H' v d) : Q v H' := h v H' s r
theorem OutR.val0 (h : OutR g F β H d false Q) {v : V} (r : Rep g F β H v d) : Q v H := h v H same_refl r
theorem OutR.new (h : OutR g F β H d true Q) {p : Addr} {H' : Hp} (s : Same H H') (n : H p = none) (r : OwnR g F β H' p d) : Q (.ref p) H' := h p H' s n r
end
/-- a two-place operation by value trees -/
def OpD (g : Gh) (r : R2) (o : D → D → Option (D × Bool)) : Prop :=
  ∀ (F : Addr → Prop) (β : List Addr) (H : Hp) (bx : Bx) (x y : V) (d1 d2 d : D) (fr : Bool) (Q : VK), o d1 d2 = some (d, fr) → BoxR g F β H bx → Con g F β H x d1 → Con g F β H y d2 → OutR g F β H d fr Q → r x y H Q
/-- one place -/
def UnD (g : Gh) (r : V → Hp → VK → Prop) (o : D → Option (D × Bool)) : Prop :=
  ∀ (F : Addr → Prop) (β : List Addr) (H : Hp) (bx : Bx) (x : V) (d1 d : D) (fr : Bool) (Q : VK), o d1 = some (d, fr) → BoxR g F β H bx → Con g F β H x d1 → OutR g F β H d fr Q → r x H Q
/-- any number of places -/
def CallD (g : Gh) (r : List V → Hp → VK → Prop) (o : List D → Option (D × Bool)) : Prop :=
  ∀ (F : Addr → Prop) (β : List Addr) (H : Hp) (bx : Bx) (xs : List V) (ds : List D) (d : D) (fr : Bool) (Q : VK), o ds = some (d, fr) → BoxR g F β H bx → ConAll g F β H xs ds → OutR g F β H d fr Q → r xs H Q
def fin (q : Option (D × Bool)) (l : List Nat) (bx : Bx) : Res ER := match q with
  | some (d, fr) => .ok ⟨d, nrm d fr l, if fr then .fr else .sh, bx⟩
  | none => .stuck
def evOp (o : D → D → Option (D × Bool)) (f1 f2 : SemE) : SemE := fun c vs bx =>
  (f1 c vs bx).bind fun r1 => (f2 c vs r1.bx).bind fun r2 => fin (o r1.d r2.d) (r1.l ++ r2.l) r2.bx
def evUn (o : D → Option (D × Bool)) (f1 : SemE) : SemE := fun c vs bx => (f1 c vs bx).bind fun r1 => fin (o r1.d) r1.l r1.bx
def evCB (o : List D → Option (D × Bool)) (f : SemA) : SemE := fun c vs bx => (f c vs bx).bind fun r => fin (o r.ds) r.l r.bx

section
variable {g : Gx} {W : WX} {fns : Fns} {X : Cx}
/-- the end of an operation: from what is asked of the whole -/
theorem fin_ok {b : Bse} {F F' : Addr → Prop} {β β' : List Addr} {H H' : Hp} {σ : L2.St} {vs : Vs} {bx bx' : Bx} {l : List Nat} {q : Option (D × Bool)} {Q : VK}
    (R : RelS g.toGh b F β H σ vs bx) (s : Stp g.toGh F β H F' β' H' bx')
    (h : match fin q l bx' with
      | .ok r => ∀ v F' β' H', Stp g.toGh F β H F' β' H' r.bx → ResR g.toGh vs σ H F' β' H' r v → Q v H'
      | .exc x bx' => ∀ cls d F' β' H', Stp g.toGh F β H F' β' H' bx' → XR g x cls d H' → W cls d σ H'
      | .stuck => False) :
    ∃ d fr, q = some (d, fr) ∧ BoxR g.toGh (fun p => F' p ∨ Lent vs σ l p) β' H' bx' ∧ OutR g.toGh (fun p => F' p ∨ Lent vs σ l p) β' H' d fr Q := by
  have R' := R.stp s
  have hL : ∀ p, Lent vs σ l p → ¬ p ∈ β' := fun p z => (R'.lent z).2.1
  cases q with
  | none => exact h.elim
  | some z =>
    obtain ⟨d, fr⟩ := z
    refine ⟨d, fr, rfl, R'.box.more hL fun p z => let ⟨o, e, _⟩ := (R'.lent z).2.2; ⟨o, e⟩, ?_⟩
    unfold OutR
    have bk : ∀ p, H' p = none → ¬ p ∈ β' := fun p e m => by
      obtain ⟨_, ns, e2⟩ := R'.box.mem m
      rw [e] at e2; cases e2
    cases fr with
    | true =>
      rw [if_pos rfl]
      intro p H2 sm hn o
      have nf : ¬ F' p := fun f => by
        obtain ⟨u, e⟩ := s.box.th p f
        rw [hn] at e; cases e
      have s2 := s.trans (Stp.grow s.box sm)
      refine h (.ref p) F' β' H2 s2 ?_
      refine ⟨p, rfl, nf, ?_, bk p hn, o.nrm⟩
      cases e : H p with
      | none => rfl
      | some u =>
        by_cases m : p ∈ β
        · obtain ⟨k, hk⟩ := List.mem_iff_getElem?.mp m
          exact absurd (List.mem_of_getElem? (s.pre k p hk)) (bk p hn)
        · obtain ⟨u', z⟩ := s.ext.live e m
          rw [z] at hn; cases hn
    | false =>
      rw [if_neg Bool.false_ne_true]
      intro v H2 sm r
      exact h v F' β' H2 (s.trans (Stp.grow s.box sm)) r.nrm

theorem pe_evOp {op : Operator} {r : R2} {o : D → D → Option (D × Bool)} {a b : Expr} {f1 f2 : SemE} {pos : Pos} (ho : OpR X (binaryOp op) r) (hd : OpD g.toGh r o)
    (ha : PE X a (tEvE g W fns f1)) (hb : PE X b (tEvE g W fns f2)) : PE X (.BinOp a op b pos) (tEvE g W fns (evOp o f1 f2)) := by
  refine PE.imp (pe_op ho ha hb) fun σ H Q ⟨b, F, β, vs, bx, R, h⟩ => ?_
  exact evOp_imp hd R h
where
  evOp_imp {r : R2} {o : D → D → Option (D × Bool)} {f1 f2 : SemE} {σ : L2.St} {H : Hp} {Q : VK} {b : Bse} {F : Addr → Prop} {β : List Addr} {vs : Vs} {bx : Bx} (hd : OpD g.toGh r o) (R : RelS g.toGh b F β H σ vs bx)
    (h : match evOp o f1 f2 fns vs bx with
      | .ok r => ∀ v F' β' H', Stp g.toGh F β H F' β' H' r.bx → ResR g.toGh vs σ H F' β' H' r v → Q v H'
      | .exc x bx' => ∀ cls d F' β' H', Stp g.toGh F β H F' β' H' bx' → XR g x cls d H' → W cls d σ H'
      | .stuck => False) : tOp r (tEvE g W fns f1) (tEvE g W fns f2) σ H Q := by
    unfold evOp at h
    refine ⟨b, F, β, vs, bx, R, ?_⟩
    cases e1 : f1 fns vs bx with
    | stuck => rw [e1] at h; exact h
    | exc x bx1 => rw [e1] at h; exact h
    | ok r1 =>
      rw [e1, bind_ok] at h
      intro v1 F1 β1 H1 s1 x1
      refine ⟨b, F1, β1, vs, r1.bx, R.stp s1, ?_⟩
      cases e2 : f2 fns vs r1.bx with
      | stuck => rw [e2] at h; exact h
      | exc x bx2 =>
        rw [e2] at h
        exact fun cls d F2 β2 H2 s2 xr => h cls d F2 β2 H2 (s1.trans s2) xr
      | ok r2 =>
        rw [e2, bind_ok] at h
        intro v2 F2 β2 H2 s2 x2
        have R1 := R.stp s1
        have R2 := R1.stp s2
        obtain ⟨d, fr, eo, bxr, out⟩ := fin_ok R (s1.trans s2) h
        have c1 := ((x1.con R s1).keep s2 s1.box fun p z => (R1.lent z).2.1).up (F' := fun p => F2 p ∨ Lent vs σ (r1.l ++ r2.l) p) fun p z => z.imp id (Lent.up fun i m => List.mem_append_left _ m)
        have c2 := (x2.con R1 s2).up (F' := fun p => F2 p ∨ Lent vs σ (r1.l ++ r2.l) p) fun p z => z.imp id (Lent.up fun i m => List.mem_append_right _ m)
        exact hd _ _ _ _ _ _ _ _ _ _ _ eo bxr c1 c2 out
theorem pe_evCmp {op : CmpOp} {r : R2} {o : D → D → Option (D × Bool)} {a b : Expr} {f1 f2 : SemE} {pos : Pos} (ho : OpR X (compareOp op) r) (hd : OpD g.toGh r o) (hm : behindInMarks op b = false)
    (ha : PE X a (tEvE g W fns f1)) (hb : PE X b (tEvE g W fns f2)) : PE X (.Compare a [op] [b] pos) (tEvE g W fns (evOp o f1 f2)) :=
  PE.imp (pe_cmpR ho ha hb hm) fun σ H Q ⟨b, F, β, vs, bx, R, h⟩ => pe_evOp.evOp_imp hd R h
theorem pe_evIx {r : R2} {o : D → D → Option (D × Bool)} {a b : Expr} {f1 f2 : SemE} {pos : Pos} (ho : IxR X r) (hd : OpD g.toGh r o) (hp : PlainIx b)
    (ha : PE X a (tEvE g W fns f1)) (hb : PE X b (tEvE g W fns f2)) : PE X (.Subscript a b pos) (tEvE g W fns (evOp o f1 f2)) :=
  PE.imp (pe_ix ho ha hb hp) fun σ H Q ⟨b, F, β, vs, bx, R, h⟩ => pe_evOp.evOp_imp hd R h
theorem pe_evUn {op : UnaryOp} {r : V → Hp → VK → Prop} {o : D → Option (D × Bool)} {a : Expr} {f1 : SemE} {pos : Pos} (ho : UnR X (unaryOp op) r) (hd : UnD g.toGh r o)
    (ha : PE X a (tEvE g W fns f1)) : PE X (.UnaryOp op a pos) (tEvE g W fns (evUn o f1)) := by
  refine PE.imp (pe_un ho ha) fun σ H Q ⟨b, F, β, vs, bx, R, h⟩ => ?_
  unfold evUn at h
  refine ⟨b, F, β, vs, bx, R, ?_⟩
  cases e1 : f1 fns vs bx with
  | stuck => rw [e1] at h; exact h
  | exc x bx1 => rw [e1] at h; exact h
  | ok r1 =>
    rw [e1, bind_ok] at h
    intro v1 F1 β1 H1 s1 x1
    obtain ⟨d, fr, eo, bxr, out⟩ := fin_ok R s1 h
    exact hd _ _ _ _ _ _ _ _ _ eo bxr (x1.con R s1) out
theorem tcb_imp {r : List V → Hp → VK → Prop} {o : List D → Option (D × Bool)} {f : SemA} (hd : CallD g.toGh r o) {σ : L2.St} {H : Hp} {Q : VK} (h : tEvE g W fns (evCB o f) σ H Q) : tCB r (tEvAC g W fns f) σ H Q := by
  obtain ⟨b, F, β, vs, bx, R, h⟩ := h
  unfold evCB at h
  refine ⟨b, F, β, vs, bx, R, ?_⟩
  cases e1 : f fns vs bx with
  | stuck => rw [e1] at h; exact h
  | exc x bx1 => rw [e1] at h; exact h
  | ok r1 =>
    rw [e1, bind_ok] at h
    intro v1 F1 β1 H1 s1 x1
    obtain ⟨d, fr, eo, bxr, out⟩ := fin_ok R s1 h
    exact hd _ _ _ _ _ _ _ _ _ eo bxr x1 out
end
end Pv

/-! Pv.D: the operators' value functions. -/
namespace Pv
open L2 PySem PyProof.Rows PySem.Spec

abbrev lim : Nat := 16777216
theorem lim_eq : sizeLine = lim := by decide
section
variable {g : Gh} {F : Addr → Prop} {β : List Addr} {H : Hp} {bx : Bx}

/-! ### python's == on trees -/
mutual
def D.toP : D → PyData
  | .non => .none
  | .bl b => .bool b
  | .int i => .int i
  | .str x => .str x
  | .tup xs => .tuple (toPs xs)
  | .lst xs => .list (toPs xs)
  | _ => .none
def toPs : List D → List PyData
  | [] => []
  | d :: ds => d.toP :: toPs ds
end
mutual
/-- a tree without odd parts, at most n deep -/
def D.isData : Nat → D → Bool
  | _, .non => true
  | _, .bl _ => true
  | _, .int _ => true
  | _, .str x => PyData.canLay0 (.str x)
  | n + 1, .tup xs => areData n xs
  | n + 1, .lst xs => areData n xs
  | _, _ => false
def areData : Nat → List D → Bool
  | _, [] => true
  | n, d :: ds => D.isData n d && areData n ds
end
mutual
def deq : D → D → Bool
  | .non, .non => true
  | .bl a, .bl b => a == b
  | .bl a, .int j => (if a then 1 else 0) == j
  | .int i, .bl b => i == (if b then 1 else 0)
  | .int i, .int j => i == j
  | .str x, .str y => x == y
  | .lst xs, .lst ys => deqs xs ys
  | .tup xs, .tup ys => deqs xs ys
  | _, _ => false
def deqs : List D → List D → Bool
  | [], [] => true
  | x :: xs, y :: ys => deq x y && deqs xs ys
  | _, _ => false
end
mutual
theorem deq_toP : ∀ (n m : Nat) (d e : D), d.isData n = true → e.isData m = true → PyData.eqv d.toP e.toP = deq d e
  | n, m, d, e, hd, he => by
    cases d <;> cases e <;> first
      | (simp only [D.toP, PyData.eqv, deq]; done)
      | (exfalso; cases n <;> simp [D.isData] at hd; done)
      | (exfalso; cases m <;> simp [D.isData] at he; done)
      | skip
    · rename_i xs ys
      cases n with
      | zero => simp [D.isData] at hd
      | succ n =>
        cases m with
        | zero => simp [D.isData] at he
        | succ m =>
          simp only [D.toP, PyData.eqv, deq]
          exact deqs_toP n m xs ys (by simpa [D.isData] using hd) (by simpa [D.isData] using he)
    · rename_i xs ys
      cases n with
      | zero => simp [D.isData] at hd
      | succ n =>
        cases m with
        | zero => simp [D.isData] at he
        | succ m =>
          simp only [D.toP, PyData.eqv, deq]
          exact deqs_toP n m xs ys (by simpa [D.isData] using hd) (by simpa [D.isData] using he)
theorem deqs_toP : ∀ (n m : Nat) (xs ys : List D), areData n xs = true → areData m ys = true → PyData.eqvAll (toPs xs) (toPs ys) = deqs xs ys
  | _, _, [], [], _, _ => by simp [toPs, PyData.eqvAll, deqs]
  | _, _, [], _ :: _, _, _ => by simp [toPs, PyData.eqvAll, deqs]
  | _, _, _ :: _, [], _, _ => by simp [toPs, PyData.eqvAll, deqs]
  | n, m, x :: xs, y :: ys, h1, h2 => by
    have q1 := Bool.and_eq_true_iff.mp (by simpa [areData] using h1)
    have q2 := Bool.and_eq_true_iff.mp (by simpa [areData] using h2)
    simp only [toPs, PyData.eqvAll, deqs]
    rw [deq_toP n m x y q1.1 q2.1, deqs_toP n m xs ys q1.2 q2.2]
end
mutual
theorem isData_lay : ∀ (n : Nat) (d : D), d.isData n = true → PyData.canLay0 d.toP = true ∧ d.toP.depth ≤ n
  | n, d, h => by
    cases d <;> first
      | (simp [D.toP, PyData.canLay0, PyData.depth]; done)
      | (exfalso; cases n <;> simp [D.isData] at h; done)
      | skip
    · refine ⟨?_, by simp [D.toP, PyData.depth]⟩
      cases n <;> simpa [D.isData, D.toP] using h
    · cases n with
      | zero => simp [D.isData] at h
      | succ n =>
        have q := areData_lay n _ (by simpa [D.isData] using h)
        exact ⟨by simpa [D.toP, PyData.canLay0] using q.1, by simp only [D.toP, PyData.depth]; omega⟩
    · cases n with
      | zero => simp [D.isData] at h
      | succ n =>
        have q := areData_lay n _ (by simpa [D.isData] using h)
        exact ⟨by simpa [D.toP, PyData.canLay0] using q.1, by simp only [D.toP, PyData.depth]; omega⟩
theorem areData_lay : ∀ (n : Nat) (ds : List D), areData n ds = true → PyData.canLayAll0 (toPs ds) = true ∧ PyData.depthAll (toPs ds) ≤ n
  | _, [], _ => by simp [toPs, PyData.canLayAll0, PyData.depthAll]
  | n, d :: ds, h => by
    have q := Bool.and_eq_true_iff.mp (by simpa [areData] using h)
    have q1 := isData_lay n d q.1
    have q2 := areData_lay n ds q.2
    simp only [toPs, PyData.canLayAll0, PyData.depthAll, q1.1, q2.1, Bool.and_self, true_and]
    omega
end
theorem isData_shaped {d : D} (h : d.isData 60 = true) : SeqAt.shaped d.toP = true := by
  have q := isData_lay 60 d h
  unfold SeqAt.shaped
  rw [q.1, Bool.true_and]
  exact decide_eq_true (by omega)
mutual
theorem Rep.dp : ∀ (n : Nat) (d : D) {v : V}, d.isData n = true → Rep g F β H v d → Dp g.K H v d.toP
  | n, d, v, h, r => by
    cases r with
    | non => exact .non
    | bl b => exact .bl b
    | int i => exact .int i
    | str x => exact .str x
    | tup s q =>
      cases n with
      | zero => simp [D.isData] at h
      | succ n =>
        simp only [D.toP]
        exact .tup s (RepAll.dp n _ (by simpa [D.isData] using h) q)
    | lst s f q =>
      cases n with
      | zero => simp [D.isData] at h
      | succ n =>
        simp only [D.toP]
        exact .lst (.of s) (RepAll.dp n _ (by simpa [D.isData] using h) q)
    | scr e => cases n <;> simp [D.isData] at h
    | dK a b c d => cases n <;> simp [D.isData] at h
    | dT a b c d => cases n <;> simp [D.isData] at h
    | box a => cases n <;> simp [D.isData] at h
    | fn a => cases n <;> simp [D.isData] at h
    | exn a => cases n <;> simp [D.isData] at h
theorem RepAll.dp : ∀ (n : Nat) (ds : List D) {vs : List V}, areData n ds = true → RepAll g F β H vs ds → DpAll g.K H vs (toPs ds)
  | _, [], _, _, .nil => .nil
  | n, d :: ds, _, h, .cons a b => by
    have q := Bool.and_eq_true_iff.mp (by simpa [areData] using h)
    exact .cons (Rep.dp n d q.1 a) (RepAll.dp n ds q.2 b)
end
theorem Con.dp {d : D} {v : V} (h : d.isData 60 = true) (c : Con g F β H v d) : Dp g.K H v d.toP := by
  cases d with
  | lst ds =>
    obtain ⟨p, us, rfl, e, _, r⟩ := c
    simp only [D.toP]
    exact .lst (.of e) (RepAll.dp 59 _ (by simpa [D.isData] using h) r)
  | dK ds => simp [D.isData] at h
  | dT ds => simp [D.isData] at h
  | _ => exact Rep.dp 60 _ h c

def eqD (d e : D) : Option (D × Bool) := if d.isData 60 && e.isData 60 then some (.bl (deq d e), false) else none
def neD (d e : D) : Option (D × Bool) := if d.isData 60 && e.isData 60 then some (.bl (!deq d e), false) else none
theorem eqD_ok : OpD g (rEqD g.K) eqD := by
  intro F β H bx x y d1 d2 d fr Q h b c1 c2 out
  unfold eqD at h
  split at h
  · rename_i hh
    have q := Bool.and_eq_true_iff.mp hh
    cases h
    exact ⟨_, _, c1.dp q.1, c2.dp q.2, isData_shaped q.1, isData_shaped q.2, by rw [deq_toP 60 60 _ _ q.1 q.2]; exact out.val0 (.bl _)⟩
  · cases h
theorem neD_ok : OpD g (rNeD g.K) neD := by
  intro F β H bx x y d1 d2 d fr Q h b c1 c2 out
  unfold neD at h
  split at h
  · rename_i hh
    have q := Bool.and_eq_true_iff.mp hh
    cases h
    exact ⟨_, _, c1.dp q.1, c2.dp q.2, isData_shaped q.1, isData_shaped q.2, by rw [deq_toP 60 60 _ _ q.1 q.2]; exact out.val0 (.bl _)⟩
  · cases h

/-! ### numbers -/
theorem Con.int {i : Int} {v : V} (c : Con g F β H v (.int i)) : v = .int i := by cases (show Rep g F β H v (.int i) from c); rfl
theorem Con.bl {i : Bool} {v : V} (c : Con g F β H v (.bl i)) : v = .bl i := by cases (show Rep g F β H v (.bl i) from c); rfl
theorem Con.str {i : Str} {v : V} (c : Con g F β H v (.str i)) : v = .str i := by cases (show Rep g F β H v (.str i) from c); rfl
theorem Con.non {v : V} (c : Con g F β H v .non) : v = .non := by cases (show Rep g F β H v .non from c); rfl
theorem Con.tup {ds : List D} {v : V} (c : Con g F β H v (.tup ds)) : ∃ a us, v = .ref a ∧ SqT g.K H a us ∧ RepAll g F β H us ds := by
  cases (show Rep g F β H v (.tup ds) from c) with
  | tup s r => exact ⟨_, _, rfl, s, r⟩
theorem RepAll.ne_nil {us : List V} {ds : List D} (r : RepAll g F β H us ds) : us = [] ↔ ds = [] := by
  cases r <;> simp

def rAddA (K : PySem.W.Frag) : R2 := fun x y H Q => (rI0 (fun i j => .int (i + j)) x y H Q) ∨ rCat x y H Q ∨ rCatA K x y H Q ∨ ∃ i j, x = .str i ∧ y = .str j ∧ i.length + j.length ≤ sizeLine ∧ Q (.str (i ++ j)) H
theorem op_addA {X : Cx} : OpR X (binaryOp .Add) (rAddA X.K) := op_add.or (op_cat.or (op_catA.or op_add_str))
def addD : D → D → Option (D × Bool)
  | .int a, .int b => some (.int (a + b), false)
  | .lst a, .lst b => if a.length + b.length ≤ lim then some (.lst (a ++ b), true) else none
  | .tup a, .tup b => if a.length + b.length ≤ lim then some (.tup (a ++ b), false) else none
  | .str a, .str b => if a.length + b.length ≤ lim then some (.str (a ++ b), false) else none
  | _, _ => none
theorem addD_ok : OpD g (rAddA g.K) addD := by
  intro F β H bx x y d1 d2 d fr Q h b c1 c2 out
  cases d1 <;> cases d2 <;> first | (cases h; done) | skip
  · cases h; rw [c1.int, c2.int]
    exact .inl ⟨_, _, rfl, rfl, out.val0 (.int _)⟩
  · simp only [addD] at h
    split at h
    · rename_i hl
      cases h; rw [c1.str, c2.str]
      exact .inr (.inr (.inr ⟨_, _, rfl, rfl, by rw [lim_eq]; exact hl, out.val0 (.str _)⟩))
    · cases h
  · simp only [addD] at h
    split at h
    · rename_i xs ys hl
      cases h
      obtain ⟨a1, us, rfl, s1, r1⟩ := c1.tup
      obtain ⟨a2, ws, rfl, s2, r2⟩ := c2.tup
      refine .inr (.inr (.inl ⟨_, _, us, ws, rfl, rfl, s1, s2, by rw [r1.length, r2.length, lim_eq]; exact hl, fun e => ?_, fun e1 e2 => ?_, fun e1 e2 p hp => ?_⟩))
      · have e' := r1.ne_nil.mp e
        subst e'
        exact out.val0 (.tup s2 r2)
      · have e' := r2.ne_nil.mp e2
        subst e'
        rw [List.append_nil] at out
        exact out.val0 (.tup s1 r1)
      · refine out.val (same_new hp) (.tup (.of upd_same) ?_)
        have k : Keeps g.K F β H F β (upd H p (.tup (us ++ ws))) := (Stp.new b hp).keeps b
        exact (RepAll.keep k r1).append (RepAll.keep k r2)
    · cases h
  · simp only [addD] at h
    split at h
    · rename_i xs ys hl
      cases h
      obtain ⟨a1, us, rfl, s1, _, r1⟩ := c1
      obtain ⟨a2, ws, rfl, s2, _, r2⟩ := c2
      refine .inr (.inl ⟨_, _, us, ws, rfl, rfl, s1, s2, by rw [r1.length, r2.length, lim_eq]; exact hl, fun p hp => ?_⟩)
      have k : Keeps g.K F β H F β (upd H p (.lst (us ++ ws))) := (Stp.new b hp).keeps b
      exact out.new (same_new hp) hp ⟨_, upd_same, (RepAll.keep k r1).append (RepAll.keep k r2)⟩
    · cases h
theorem ints2 {f : Int → Int → Option D} {r : R2} (hr : ∀ i j d H Q, f i j = some d → (∀ v, (∃ n, v = V.int n ∧ d = .int n) ∨ (∃ n, v = V.bl n ∧ d = .bl n) → Q v H) → r (.int i) (.int j) H Q) :
    OpD g r (fun d1 d2 => match d1, d2 with | .int i, .int j => (f i j).map fun d => (d, false) | _, _ => none) := by
  intro F β H bx x y d1 d2 d fr Q h b c1 c2 out
  cases d1 <;> cases d2 <;> first | (cases h; done) | skip
  rename_i i j
  simp only [Option.map_eq_some_iff] at h
  obtain ⟨d', e, z⟩ := h
  cases z
  rw [c1.int, c2.int]
  refine hr i j _ H Q e fun v hv => ?_
  rcases hv with ⟨n, rfl, rfl⟩ | ⟨n, rfl, rfl⟩
  · exact out.val0 (.int n)
  · exact out.val0 (.bl n)
def subI (i j : Int) : Option D := some (.int (i - j))
def subD (a b : D) : Option (D × Bool) := match a, b with | .int i, .int j => (subI i j).map fun d => (d, false) | _, _ => none
theorem subD_ok : OpD g (rI0 fun i j => .int (i - j)) subD := ints2 fun i j d H Q e q => by
  cases e; exact ⟨i, j, rfl, rfl, q _ (.inl ⟨_, rfl, rfl⟩)⟩
/-- a product that the model reckons -/
def mulOk (i j : Int) : Bool := decide (i.natAbs < 18446744073709551616) || decide (j.natAbs < 18446744073709551616) || decide (i.natAbs.log2 + j.natAbs.log2 < 1000000)
def rMulA : R2 := fun x y H Q => (rI CMul (fun i j => .int (i * j)) x y H Q) ∨ (rI CMulW (fun i j => .int (i * j)) x y H Q) ∨ rRep x y H Q
theorem op_mulA {X : Cx} : OpR X (binaryOp .Mult) rMulA := op_mul.or (op_mulW.or op_rep)
def mulD : D → D → Option (D × Bool)
  | .int i, .int j => if mulOk i j then some (.int (i * j), false) else none
  | .lst xs, .int k => if k < 9223372036854775808 && decide (-9223372036854775808 ≤ k) && decide (xs.length * k.toNat ≤ lim) then some (.lst (List.replicate k.toNat xs).flatten, true) else none
  | _, _ => none
theorem RepAll.rep {us : List V} {ds : List D} (r : RepAll g F β H us ds) : ∀ k : Nat, RepAll g F β H (List.replicate k us).flatten (List.replicate k ds).flatten
  | 0 => .nil
  | k + 1 => by
    simp only [List.replicate_succ, List.flatten_cons]
    exact r.append (RepAll.rep r k)
theorem mulD_ok : OpD g rMulA mulD := by
  intro F β H bx x y d1 d2 d fr Q h b c1 c2 out
  cases d1 <;> cases d2 <;> first | (cases h; done) | skip
  · rename_i i j
    simp only [mulD] at h
    split at h
    · rename_i hm
      cases h
      rw [c1.int, c2.int]
      unfold mulOk at hm
      simp only [Bool.or_eq_true, decide_eq_true_eq] at hm
      rcases hm with (hm | hm) | hm
      · exact .inl ⟨_, _, rfl, rfl, .inl ⟨by omega, by omega⟩, out.val0 (.int _)⟩
      · exact .inl ⟨_, _, rfl, rfl, .inr ⟨by omega, by omega⟩, out.val0 (.int _)⟩
      · exact .inr (.inl ⟨_, _, rfl, rfl, hm, out.val0 (.int _)⟩)
    · cases h
  · rename_i xs k
    simp only [mulD] at h
    split at h
    · rename_i hm
      simp only [Bool.and_eq_true, decide_eq_true_eq] at hm
      cases h
      obtain ⟨a1, us, rfl, s1, _, r1⟩ := c1
      rw [c2.int]
      refine .inr (.inr ⟨a1, k, us, rfl, rfl, s1, by omega, by omega, by rw [r1.length, lim_eq]; exact hm.2, fun p hp => ?_⟩)
      have kk : Keeps g.K F β H F β (upd H p (.lst (List.replicate k.toNat us).flatten)) := (Stp.new b hp).keeps b
      exact out.new (same_new hp) hp ⟨_, upd_same, (RepAll.keep kk r1).rep _⟩
    · cases h
/-- // by a divisor below 2 ^ 9000, on either side of 0 -/
def CDivNW (_ j : Int) : Prop := j ≠ 0 ∧ j.natAbs.log2 < 9000
theorem op_fdivNW {X : Cx} : OpR X (binaryOp .FloorDiv) (rI CDivNW fun i j => .int (i.fdiv j)) := opI fun _ _ _ _ _ _ _ hc q => floordiv_int hc.1 q (.inl (PyProof.noPylong_of_log2 hc.2))
def rFdivA : R2 := fun x y H Q => (rI CDivW (fun i j => .int (i / j)) x y H Q) ∨ (rI CDivNW (fun i j => .int (i.fdiv j)) x y H Q)
theorem op_fdivA {X : Cx} : OpR X (binaryOp .FloorDiv) rFdivA := op_fdivW.or op_fdivNW
def fdivI (i j : Int) : Option D := if 0 < j then (if j.natAbs.log2 < 9000 then some (.int (i / j)) else none) else if j < 0 && decide (j.natAbs.log2 < 9000) then some (.int (i.fdiv j)) else none
def fdivD (a b : D) : Option (D × Bool) := match a, b with | .int i, .int j => (fdivI i j).map fun d => (d, false) | _, _ => none
theorem fdivD_ok : OpD g rFdivA fdivD := ints2 fun i j d H Q e q => by
  unfold fdivI at e
  split at e
  · split at e
    · cases e; exact .inl ⟨i, j, rfl, rfl, ⟨by assumption, by assumption⟩, q _ (.inl ⟨_, rfl, rfl⟩)⟩
    · cases e
  · split at e
    · rename_i hh
      simp only [Bool.and_eq_true, decide_eq_true_eq] at hh
      cases e; exact .inr ⟨i, j, rfl, rfl, ⟨by omega, hh.2⟩, q _ (.inl ⟨_, rfl, rfl⟩)⟩
    · cases e
def rModA : R2 := fun x y H Q => (rI (fun _ j => 0 < j) (fun i j => .int (i % j)) x y H Q) ∨ (rI (fun _ j => j ≠ 0) (fun i j => .int (i.fmod j)) x y H Q)
theorem op_modA {X : Cx} : OpR X (binaryOp .Mod) rModA := op_mod.or op_modN
def modI (i j : Int) : Option D := if 0 < j then some (.int (i % j)) else if j < 0 then some (.int (i.fmod j)) else none
def modD (a b : D) : Option (D × Bool) := match a, b with | .int i, .int j => (modI i j).map fun d => (d, false) | _, _ => none
theorem modD_ok : OpD g rModA modD := ints2 fun i j d H Q e q => by
  unfold modI at e
  split at e
  · cases e; exact .inl ⟨i, j, rfl, rfl, by assumption, q _ (.inl ⟨_, rfl, rfl⟩)⟩
  · split at e
    · cases e; exact .inr ⟨i, j, rfl, rfl, by omega, q _ (.inl ⟨_, rfl, rfl⟩)⟩
    · cases e
def powI (i j : Int) : Option D := if 0 ≤ j && decide (j ≤ 1000000) && decide (i.natAbs < 18446744073709551616) then some (.int (i ^ j.toNat)) else none
def powD (a b : D) : Option (D × Bool) := match a, b with | .int i, .int j => (powI i j).map fun d => (d, false) | _, _ => none
theorem powD_ok : OpD g (rI CPow fun i j => .int (i ^ j.toNat)) powD := ints2 fun i j d H Q e q => by
  unfold powI at e
  split at e
  · rename_i hh
    simp only [Bool.and_eq_true, decide_eq_true_eq] at hh
    cases e; exact ⟨i, j, rfl, rfl, ⟨hh.1.1, hh.1.2, hh.2⟩, q _ (.inl ⟨_, rfl, rfl⟩)⟩
  · cases e
def ltD (a b : D) : Option (D × Bool) := match a, b with | .int i, .int j => (some (.bl (decide (i < j))) : Option D).map fun d => (d, false) | _, _ => none
def leD (a b : D) : Option (D × Bool) := match a, b with | .int i, .int j => (some (.bl (decide (i ≤ j))) : Option D).map fun d => (d, false) | _, _ => none
def gtD (a b : D) : Option (D × Bool) := match a, b with | .int i, .int j => (some (.bl (decide (j < i))) : Option D).map fun d => (d, false) | _, _ => none
def geD (a b : D) : Option (D × Bool) := match a, b with | .int i, .int j => (some (.bl (decide (j ≤ i))) : Option D).map fun d => (d, false) | _, _ => none
theorem leD_ok : OpD g (rI0 fun i j => .bl (decide (i ≤ j))) leD := ints2 (f := fun i j => some (.bl (decide (i ≤ j)))) fun i j d H Q e q => by
  cases e; exact ⟨i, j, rfl, rfl, q _ (.inr ⟨_, rfl, rfl⟩)⟩
theorem gtD_ok : OpD g (rI0 fun i j => .bl (decide (j < i))) gtD := ints2 (f := fun i j => some (.bl (decide (j < i)))) fun i j d H Q e q => by
  cases e; exact ⟨i, j, rfl, rfl, q _ (.inr ⟨_, rfl, rfl⟩)⟩
theorem geD_ok : OpD g (rI0 fun i j => .bl (decide (j ≤ i))) geD := ints2 (f := fun i j => some (.bl (decide (j ≤ i)))) fun i j d H Q e q => by
  cases e; exact ⟨i, j, rfl, rfl, q _ (.inr ⟨_, rfl, rfl⟩)⟩
theorem ltD_ok : OpD g (rI0 fun i j => .bl (decide (i < j))) ltD := ints2 (f := fun i j => some (.bl (decide (i < j)))) fun i j d H Q e q => by
  cases e; exact ⟨i, j, rfl, rfl, q _ (.inr ⟨_, rfl, rfl⟩)⟩
def negD : D → Option (D × Bool)
  | .int i => some (.int (-i), false)
  | _ => none
theorem negD_ok : UnD g (rU fun i => .int (-i)) negD := by
  intro F β H bx x d1 d fr Q h b c1 out
  cases d1 <;> first | (cases h; done) | skip
  cases h; rw [c1.int]
  exact ⟨_, rfl, out.val0 (.int _)⟩

/-! ### is -/
def D.isNon : D → Bool
  | .non => true
  | _ => false
theorem Con.notNon {d : D} {v : V} (c : Con g F β H v d) : decide (v = .non) = d.isNon := by
  cases d with
  | non => have e := c.non; subst e; rfl
  | lst ds => obtain ⟨p, us, rfl, _⟩ := c; rfl
  | dK ds => obtain ⟨p, us, rfl, _⟩ := c; rfl
  | dT ds => obtain ⟨p, us, rfl, _⟩ := c; rfl
  | _ => (cases (show Rep g F β H v _ from c)); rfl
def rIsA : R2 := fun x y H Q => (y = .non ∧ Q (.bl (decide (x = .non))) H) ∨ rIsB x y H Q
theorem op_isA {X : Cx} : OpR X (compareOp .Is) rIsA := op_isN.or op_isBl
def rIsnA : R2 := fun x y H Q => (y = .non ∧ Q (.bl (!decide (x = .non))) H) ∨ rNotB x y H Q
theorem op_isnA {X : Cx} : OpR X (compareOp .IsNot) rIsnA := op_notN.or op_notBl
def isD (a b : D) : Option (D × Bool) := match b with
  | .non => some (.bl a.isNon, false)
  | .bl y => match a with | .bl x => some (.bl (x == y), false) | _ => none
  | _ => none
def isnD (a b : D) : Option (D × Bool) := match b with
  | .non => some (.bl (!a.isNon), false)
  | .bl y => match a with | .bl x => some (.bl (!(x == y)), false) | _ => none
  | _ => none
theorem isD_ok : OpD g rIsA isD := by
  intro F β H bx x y d1 d2 d fr Q h b c1 c2 out
  cases d2 <;> first | (cases h; done) | skip
  · cases h
    refine .inl ⟨c2.non, ?_⟩
    rw [c1.notNon]
    exact out.val0 (.bl _)
  · cases d1 <;> first | (cases h; done) | skip
    cases h
    refine .inr ⟨_, _, c1.bl, c2.bl, ?_⟩
    rw [← Bool.beq_eq_decide_eq]
    exact out.val0 (.bl _)
theorem isnD_ok : OpD g rIsnA isnD := by
  intro F β H bx x y d1 d2 d fr Q h b c1 c2 out
  cases d2 <;> first | (cases h; done) | skip
  · cases h
    refine .inl ⟨c2.non, ?_⟩
    rw [c1.notNon]
    exact out.val0 (.bl _)
  · cases d1 <;> first | (cases h; done) | skip
    cases h
    refine .inr ⟨_, _, c1.bl, c2.bl, ?_⟩
    rw [← Bool.beq_eq_decide_eq]
    exact out.val0 (.bl _)
end
end Pv

/-! Pv.E: names, tests, and/or/not, displays, arguments. -/
namespace Pv
open L2 PySem PyProof.Rows PySem.Spec

section
variable {g : Gx} {W : WX} {fns : Fns} {X : Cx}

/-! ### names and constants -/
def evVar (i : Nat) : SemE := fun _ vs bx => match vs[i]? with
  | some (.val d) => .ok ⟨d, [], .sh, bx⟩
  | some (.own d) => .ok ⟨d, [], .ow i, bx⟩
  | _ => .stuck
def evC (d : D) : SemE := fun _ _ bx => .ok ⟨d, [], .sh, bx⟩
theorem evVar_imp {i : Nat} {σ : L2.St} {H : Hp} {Q : VK} (h : tEvE g W fns (evVar i) σ H Q) : tVar i σ H Q := by
  obtain ⟨b, F, β, vs, bx, R, h⟩ := h
  unfold evVar at h
  cases e : vs[i]? with
  | none => rw [e] at h; exact h.elim
  | some s =>
    have q := R.slot i s e
    rw [e] at h
    cases s with
    | none => exact h.elim
    | val d =>
      obtain ⟨v, e1, r⟩ := q
      exact ⟨v, e1, h v F β H (.refl R.box) (r.up fun p f => .inl f)⟩
    | own d =>
      obtain ⟨p, e1, _⟩ := q
      exact ⟨.ref p, e1, h (.ref p) F β H (.refl R.box) ⟨e, e1⟩⟩
theorem evC_imp {d : D} {v : V} (hr : ∀ F β H, Rep g.toGh F β H v d) {σ : L2.St} {H : Hp} {Q : VK} (h : tEvE g W fns (evC d) σ H Q) : tC v σ H Q := by
  obtain ⟨b, F, β, vs, bx, R, h⟩ := h
  exact h v F β H (.refl R.box) (hr _ _ _)

/-! ### tests -/
def truD : D → Option Bool
  | .non => some false
  | .bl b => some b
  | .int i => some (i != 0)
  | .str x => if x.length ≤ lim then some ((x.length : Int) != 0) else none
  | .lst ds => some (!ds.isEmpty)
  | .tup ds => some (!ds.isEmpty)
  | .dK ds => some (!ds.isEmpty)
  | _ => none
def evTru (f : SemE) : SemT := fun c vs bx => (f c vs bx).bind fun r => match truD r.d with
  | some b => .ok (b, r.bx)
  | none => .stuck
def evTst (f : SemE) : SemT := fun c vs bx => (f c vs bx).bind fun r => match r.d with
  | .bl b => .ok (b, r.bx)
  | _ => .stuck
theorem isEmpty_rep {G : Gh} {F : Addr → Prop} {β : List Addr} {H : Hp} {us : List V} {ds : List D} (r : RepAll G F β H us ds) : us.isEmpty = ds.isEmpty := by cases r <;> rfl
theorem truD_ok {G : Gh} {F : Addr → Prop} {β : List Addr} {H : Hp} {v : V} {d : D} {b : Bool} (h : truD d = some b) (c : Con G F β H v d) : TruV G.K v H b := by
  cases d <;> first | (cases h; done) | skip
  · cases h; rw [c.non]; rfl
  · cases h; rw [c.bl]; rfl
  · cases h; rw [c.int]; rfl
  · simp only [truD] at h
    split at h
    · rename_i hl
      cases h; rw [c.str]; exact ⟨by rw [lim_eq]; exact hl, rfl⟩
    · cases h
  · cases h
    obtain ⟨a, us, rfl, s, r⟩ := c.tup
    exact .inr (.inl ⟨us, s, by rw [isEmpty_rep r]⟩)
  · cases h
    obtain ⟨a, us, rfl, s, _, r⟩ := c
    exact .inl ⟨us, .of s, by rw [isEmpty_rep r]⟩
  · cases h
    obtain ⟨a, ks, rfl, s, _, e, r⟩ := c
    refine .inr (.inr ⟨ks, s, ?_⟩)
    have := isEmpty_rep r
    simp only [List.isEmpty_map] at this
    rw [this]
theorem evTru_imp (hK : X.K = g.K) {f : SemE} {σ : L2.St} {H : Hp} {Q : Bool → Hp → Prop} (h : tEvT g W fns (evTru f) σ H Q) : tEvE g W fns f σ H fun x H' => ∃ k, TruV X.K x H' k ∧ Q k H' := by
  obtain ⟨b, F, β, vs, bx, R, h⟩ := h
  unfold evTru at h
  refine ⟨b, F, β, vs, bx, R, ?_⟩
  cases e1 : f fns vs bx with
  | stuck => rw [e1] at h; exact h
  | exc x bx1 => rw [e1] at h; exact h
  | ok r1 =>
    rw [e1, bind_ok] at h
    intro v1 F1 β1 H1 s1 x1
    have c1 := x1.con R s1
    cases e2 : truD r1.d with
    | none => rw [e2] at h; exact h.elim
    | some k =>
      rw [e2] at h
      exact ⟨k, by rw [hK]; exact truD_ok e2 c1, h F1 β1 H1 s1⟩
theorem evTst_imp {f : SemE} {σ : L2.St} {H : Hp} {Q : Bool → Hp → Prop} (h : tEvT g W fns (evTst f) σ H Q) : tTest (tEvE g W fns f) σ H Q := by
  obtain ⟨b, F, β, vs, bx, R, h⟩ := h
  unfold evTst at h
  refine ⟨b, F, β, vs, bx, R, ?_⟩
  cases e1 : f fns vs bx with
  | stuck => rw [e1] at h; exact h
  | exc x bx1 => rw [e1] at h; exact h
  | ok r1 =>
    rw [e1, bind_ok] at h
    intro v1 F1 β1 H1 s1 x1
    have c1 := x1.con R s1
    cases e2 : r1.d with
    | bl k =>
      rw [e2] at h c1
      exact ⟨k, c1.bl, h F1 β1 H1 s1⟩
    | _ => rw [e2] at h; exact h.elim
theorem pt_evTru {a : Expr} {f : SemE} (hK : X.K = g.K) (ha : PE X a (tEvE g W fns f)) (he : ∀ whole, isTrue a X.env whole = (do let v ← whole; standAt a.pos; holding [v] (truthy v))) :
    PT X a (tEvT g W fns (evTru f)) := PT.imp (pt_truth ha he) fun _ _ _ h => evTru_imp hK h
/-- a comparison as a test -/
theorem pt_evCmp {op : CmpOp} {r : R2} {o : D → D → Option (D × Bool)} {a b : Expr} {f1 f2 : SemE} {pos : Pos} (ho : OpR X (compareOp op) r) (hd : OpD g.toGh r o) (hm : behindInMarks op b = false)
    (ha : PE X a (tEvE g W fns f1)) (hb : PE X b (tEvE g W fns f2)) : PT X (.Compare a [op] [b] pos) (tEvT g W fns (evTst (evOp o f1 f2))) := by
  refine PT.imp (pt_cmpR ho ha hb hm) fun σ H Q h => ?_
  obtain ⟨b, F, β, vs, bx, R, h⟩ := evTst_imp h
  exact pe_evOp.evOp_imp hd R h

/-- step through a test -/
theorem evT_step {t : SemT} {σ : L2.St} {H : Hp} {b : Bse} {F : Addr → Prop} {β : List Addr} {vs : Vs} {bx : Bx} {Q : Bool → Hp → Prop} (R : RelS g.toGh b F β H σ vs bx)
    (hok : ∀ k bx1 F1 β1 H1, t fns vs bx = .ok (k, bx1) → Stp g.toGh F β H F1 β1 H1 bx1 → Q k H1)
    (hexc : ∀ x bx1, t fns vs bx = .exc x bx1 → ∀ cls d F' β' H', Stp g.toGh F β H F' β' H' bx1 → XR g x cls d H' → W cls d σ H')
    (hst : t fns vs bx = .stuck → False) : tEvT g W fns t σ H Q := by
  refine ⟨b, F, β, vs, bx, R, ?_⟩
  cases e : t fns vs bx with
  | stuck => exact hst e
  | exc x bx1 => exact hexc x bx1 e
  | ok r => exact fun F1 β1 H1 s => hok r.1 r.2 F1 β1 H1 e s
theorem evE_step {t : SemE} {σ : L2.St} {H : Hp} {b : Bse} {F : Addr → Prop} {β : List Addr} {vs : Vs} {bx : Bx} {Q : VK} (R : RelS g.toGh b F β H σ vs bx)
    (hok : ∀ r v F1 β1 H1, t fns vs bx = .ok r → Stp g.toGh F β H F1 β1 H1 r.bx → ResR g.toGh vs σ H F1 β1 H1 r v → Q v H1)
    (hexc : ∀ x bx1, t fns vs bx = .exc x bx1 → ∀ cls d F' β' H', Stp g.toGh F β H F' β' H' bx1 → XR g x cls d H' → W cls d σ H')
    (hst : t fns vs bx = .stuck → False) : tEvE g W fns t σ H Q := by
  refine ⟨b, F, β, vs, bx, R, ?_⟩
  cases e : t fns vs bx with
  | stuck => exact hst e
  | exc x bx1 => exact hexc x bx1 e
  | ok r => exact fun v F1 β1 H1 s x => hok r v F1 β1 H1 e s x
/-- what is asked behind a first step is asked from there -/
def AskE (g : Gx) (W : WX) (vs : Vs) (σ : L2.St) (F : Addr → Prop) (β : List Addr) (H : Hp) (Q : VK) (res : Res ER) : Prop := match res with
  | .ok r => ∀ v F' β' H', Stp g.toGh F β H F' β' H' r.bx → ResR g.toGh vs σ H F' β' H' r v → Q v H'
  | .exc x bx' => ∀ cls d F' β' H', Stp g.toGh F β H F' β' H' bx' → XR g x cls d H' → W cls d σ H'
  | .stuck => False
def AskT (g : Gx) (W : WX) (σ : L2.St) (F : Addr → Prop) (β : List Addr) (H : Hp) (Q : Bool → Hp → Prop) (res : Res (Bool × Bx)) : Prop := match res with
  | .ok r => ∀ F' β' H', Stp g.toGh F β H F' β' H' r.2 → Q r.1 H'
  | .exc x bx' => ∀ cls d F' β' H', Stp g.toGh F β H F' β' H' bx' → XR g x cls d H' → W cls d σ H'
  | .stuck => False
theorem ResR.back {G : Gh} {b : Bse} {F F' F'' : Addr → Prop} {β β' β'' : List Addr} {H H' H'' : Hp} {σ : L2.St} {vs : Vs} {bx : Bx} {r : ER} {v : V} (R : RelS G b F β H σ vs bx) {bx'}
    (s : Stp G F β H F' β' H' bx') (s' : Stp G F' β' H' F'' β'' H'' r.bx) (x : ResR G vs σ H' F'' β'' H'' r v) : ResR G vs σ H F'' β'' H'' r v := by
  unfold ResR at x ⊢
  cases hp : r.pv with
  | sh => rw [hp] at x; exact x
  | ow i => rw [hp] at x; exact x
  | fr =>
    rw [hp] at x
    obtain ⟨p, e, nf, hn, nb, o⟩ := x
    refine ⟨p, e, nf, ?_, nb, o⟩
    cases q : H p with
    | none => rfl
    | some u =>
      by_cases m : p ∈ β
      · obtain ⟨k, hk⟩ := List.mem_iff_getElem?.mp m
        exact absurd (List.mem_of_getElem? (s'.pre k p (s.pre k p hk))) nb
      · obtain ⟨u', z⟩ := s.ext.live q m
        rw [z] at hn; cases hn
theorem AskE.from {σ : L2.St} {H H1 : Hp} {b : Bse} {F F1 : Addr → Prop} {β β1 : List Addr} {vs : Vs} {bx bx1 : Bx} {Q : VK} {res : Res ER} (R : RelS g.toGh b F β H σ vs bx) (s : Stp g.toGh F β H F1 β1 H1 bx1)
    (h : AskE g W vs σ F β H Q res) : AskE g W vs σ F1 β1 H1 Q res := by
  cases res with
  | stuck => exact h
  | exc x bx' => exact fun cls d F' β' H' s' xr => h cls d F' β' H' (s.trans s') xr
  | ok r => exact fun v F' β' H' s' x => h v F' β' H' (s.trans s') (x.back R s s')
theorem AskT.from {σ : L2.St} {H H1 : Hp} {F F1 : Addr → Prop} {β β1 : List Addr} {bx1 : Bx} {Q : Bool → Hp → Prop} {res : Res (Bool × Bx)} (s : Stp g.toGh F β H F1 β1 H1 bx1)
    (h : AskT g W σ F β H Q res) : AskT g W σ F1 β1 H1 Q res := by
  cases res with
  | stuck => exact h
  | exc x bx' => exact fun cls d F' β' H' s' xr => h cls d F' β' H' (s.trans s') xr
  | ok r => exact fun F' β' H' s' => h F' β' H' (s.trans s')

/-! ### and, or, not -/
def evAndT (t u : SemT) : SemT := fun c vs bx => (t c vs bx).bind fun r => if r.1 = true then u c vs r.2 else .ok (false, r.2)
def evOrT (t u : SemT) : SemT := fun c vs bx => (t c vs bx).bind fun r => if r.1 = true then .ok (true, r.2) else u c vs r.2
def evNotT (t : SemT) : SemT := fun c vs bx => (t c vs bx).bind fun r => .ok (!r.1, r.2)
theorem evAndT_imp {t u : SemT} {σ : L2.St} {H : Hp} {Q : Bool → Hp → Prop} (h : tEvT g W fns (evAndT t u) σ H Q) : tAnd (tEvT g W fns t) (tEvT g W fns u) σ H Q := by
  obtain ⟨b, F, β, vs, bx, R, h⟩ := h
  change AskT g W σ F β H Q _ at h
  unfold evAndT at h
  refine evT_step R (fun k bx1 F1 β1 H1 e s => ?_) (fun x bx1 e => ?_) fun e => ?_
  · rw [e, bind_ok] at h
    cases k with
    | true =>
      rw [if_pos rfl]
      exact ⟨b, F1, β1, vs, bx1, R.stp s, h.from s⟩
    | false => exact h F1 β1 H1 s
  · rw [e] at h; exact h
  · rw [e] at h; exact h
theorem evOrT_imp {t u : SemT} {σ : L2.St} {H : Hp} {Q : Bool → Hp → Prop} (h : tEvT g W fns (evOrT t u) σ H Q) : tOr (tEvT g W fns t) (tEvT g W fns u) σ H Q := by
  obtain ⟨b, F, β, vs, bx, R, h⟩ := h
  change AskT g W σ F β H Q _ at h
  unfold evOrT at h
  refine evT_step R (fun k bx1 F1 β1 H1 e s => ?_) (fun x bx1 e => ?_) fun e => ?_
  · rw [e, bind_ok] at h
    cases k with
    | true => exact h F1 β1 H1 s
    | false =>
      rw [if_neg Bool.false_ne_true]
      exact ⟨b, F1, β1, vs, bx1, R.stp s, h.from s⟩
  · rw [e] at h; exact h
  · rw [e] at h; exact h
theorem evNotT_imp {t : SemT} {σ : L2.St} {H : Hp} {Q : Bool → Hp → Prop} (h : tEvT g W fns (evNotT t) σ H Q) : tNot (tEvT g W fns t) σ H Q := by
  obtain ⟨b, F, β, vs, bx, R, h⟩ := h
  unfold evNotT at h
  refine evT_step R (fun k bx1 F1 β1 H1 e s => ?_) (fun x bx1 e => ?_) fun e => ?_
  · rw [e, bind_ok] at h; exact h F1 β1 H1 s
  · rw [e] at h; exact h
  · rw [e] at h; exact h
def evAndV (f k : SemE) : SemE := fun c vs bx => (f c vs bx).bind fun r => match truD r.d with
  | some true => k c vs r.bx
  | some false => .ok r
  | none => .stuck
def evOrV (f k : SemE) : SemE := fun c vs bx => (f c vs bx).bind fun r => match truD r.d with
  | some true => .ok r
  | some false => k c vs r.bx
  | none => .stuck
def evNotV (f : SemE) : SemE := fun c vs bx => (f c vs bx).bind fun r => match truD r.d with
  | some b => .ok ⟨.bl (!b), [], .sh, r.bx⟩
  | none => .stuck
theorem evAndV_imp (hK : X.K = g.K) {f k : SemE} {σ : L2.St} {H : Hp} {Q : VK} (h : tEvE g W fns (evAndV f k) σ H Q) : tAndT X.K (tEvE g W fns f) (tEvE g W fns k) σ H Q := by
  obtain ⟨b, F, β, vs, bx, R, h⟩ := h
  change AskE g W vs σ F β H Q _ at h
  unfold evAndV at h
  refine evE_step R (fun r v F1 β1 H1 e s x => ?_) (fun x bx1 e => ?_) fun e => ?_
  · rw [e, bind_ok] at h
    cases e2 : truD r.d with
    | none => rw [e2] at h; exact h.elim
    | some y =>
      rw [e2] at h
      refine ⟨y, by rw [hK]; exact truD_ok e2 (x.con R s), ?_⟩
      cases y with
      | true => rw [if_pos rfl]; exact ⟨b, F1, β1, vs, r.bx, R.stp s, AskE.from R s h⟩
      | false => rw [if_neg Bool.false_ne_true]; exact h v F1 β1 H1 s x
  · rw [e] at h; exact h
  · rw [e] at h; exact h
theorem evOrV_imp (hK : X.K = g.K) {f k : SemE} {σ : L2.St} {H : Hp} {Q : VK} (h : tEvE g W fns (evOrV f k) σ H Q) : tOrT X.K (tEvE g W fns f) (tEvE g W fns k) σ H Q := by
  obtain ⟨b, F, β, vs, bx, R, h⟩ := h
  change AskE g W vs σ F β H Q _ at h
  unfold evOrV at h
  refine evE_step R (fun r v F1 β1 H1 e s x => ?_) (fun x bx1 e => ?_) fun e => ?_
  · rw [e, bind_ok] at h
    cases e2 : truD r.d with
    | none => rw [e2] at h; exact h.elim
    | some y =>
      rw [e2] at h
      refine ⟨y, by rw [hK]; exact truD_ok e2 (x.con R s), ?_⟩
      cases y with
      | false => rw [if_neg Bool.false_ne_true]; exact ⟨b, F1, β1, vs, r.bx, R.stp s, AskE.from R s h⟩
      | true => rw [if_pos rfl]; exact h v F1 β1 H1 s x
  · rw [e] at h; exact h
  · rw [e] at h; exact h
theorem evNotV_imp (hK : X.K = g.K) {f : SemE} {σ : L2.St} {H : Hp} {Q : VK} (h : tEvE g W fns (evNotV f) σ H Q) : tNotT X.K (tEvE g W fns f) σ H Q := by
  obtain ⟨b, F, β, vs, bx, R, h⟩ := h
  unfold evNotV at h
  refine evE_step R (fun r v F1 β1 H1 e s x => ?_) (fun x bx1 e => ?_) fun e => ?_
  · rw [e, bind_ok] at h
    cases e2 : truD r.d with
    | none => rw [e2] at h; exact h.elim
    | some y =>
      rw [e2] at h
      exact ⟨y, by rw [hK]; exact truD_ok e2 (x.con R s), h (.bl (!y)) F1 β1 H1 s (.bl _)⟩
  · rw [e] at h; exact h
  · rw [e] at h; exact h
def evIf (t : SemT) (f k : SemE) : SemE := fun c vs bx => (t c vs bx).bind fun r => if r.1 = true then f c vs r.2 else k c vs r.2
theorem evIf_imp {t : SemT} {f k : SemE} {σ : L2.St} {H : Hp} {Q : VK} (h : tEvE g W fns (evIf t f k) σ H Q) : tIf (tEvT g W fns t) (tEvE g W fns f) (tEvE g W fns k) σ H Q := by
  obtain ⟨b, F, β, vs, bx, R, h⟩ := h
  change AskE g W vs σ F β H Q _ at h
  unfold evIf at h
  refine evT_step R (fun y bx1 F1 β1 H1 e s => ?_) (fun x bx1 e => ?_) fun e => ?_
  · rw [e, bind_ok] at h
    cases y with
    | true =>
      rw [if_pos rfl]
      exact ⟨b, F1, β1, vs, bx1, R.stp s, AskE.from R s h⟩
    | false =>
      rw [if_neg Bool.false_ne_true]
      exact ⟨b, F1, β1, vs, bx1, R.stp s, AskE.from R s h⟩
  · rw [e] at h; exact h
  · rw [e] at h; exact h

/-! ### chains: a op b op' c -/
def evChain (o o' : D → D → Option (D × Bool)) (f1 f2 f3 : SemE) : SemE := fun c vs bx =>
  (f1 c vs bx).bind fun r1 => (f2 c vs r1.bx).bind fun r2 => match o r1.d r2.d with
    | some (.bl true, false) => (f3 c vs r2.bx).bind fun r3 => match o' r2.d r3.d with
      | some (.bl k, false) => .ok ⟨.bl k, [], .sh, r3.bx⟩
      | _ => .stuck
    | some (.bl false, false) => .ok ⟨.bl false, [], .sh, r2.bx⟩
    | _ => .stuck
theorem Lent.box {G : Gh} {b : Bse} {F : Addr → Prop} {β : List Addr} {H : Hp} {σ : L2.St} {vs : Vs} {bx : Bx} (R : RelS G b F β H σ vs bx) (l : List Nat) : BoxR G (fun p => F p ∨ Lent vs σ l p) β H bx :=
  R.box.more (fun p z => (R.lent z).2.1) fun p z => let ⟨o, e, _⟩ := (R.lent z).2.2; ⟨o, e⟩
theorem evChain_imp {r r' : R2} {o o' : D → D → Option (D × Bool)} {f1 f2 f3 : SemE} (hd : OpD g.toGh r o) (hd' : OpD g.toGh r' o') {σ : L2.St} {H : Hp} {Q : VK} (h : tEvE g W fns (evChain o o' f1 f2 f3) σ H Q) :
    tChain r r' (tEvE g W fns f1) (tEvE g W fns f2) (tEvE g W fns f3) σ H Q := by
  obtain ⟨b, F, β, vs, bx, R, h⟩ := h
  change AskE g W vs σ F β H Q _ at h
  unfold evChain at h
  refine evE_step R (fun r1 v1 F1 β1 H1 e1 s1 x1 => ?_) (fun x bx1 e => ?_) fun e => ?_
  · rw [e1, bind_ok] at h
    have R1 := R.stp s1
    replace h := AskE.from R s1 h
    refine evE_step R1 (fun r2 v2 F2 β2 H2 e2 s2 x2 => ?_) (fun x bx1 e => ?_) fun e => ?_
    · rw [e2, bind_ok] at h
      have R2 := R1.stp s2
      replace h := AskE.from R1 s2 h
      have c1 := ((x1.con R s1).keep s2 s1.box fun p z => (R1.lent z).2.1).up (F' := fun p => F2 p ∨ Lent vs σ (r1.l ++ r2.l) p) fun p z => z.imp id (Lent.up fun i m => List.mem_append_left _ m)
      have c2 := (x2.con R1 s2).up (F' := fun p => F2 p ∨ Lent vs σ (r1.l ++ r2.l) p) fun p z => z.imp id (Lent.up fun i m => List.mem_append_right _ m)
      split at h
      · rename_i eo
        refine hd _ _ _ _ _ _ _ _ _ _ _ eo (Lent.box R2 (r1.l ++ r2.l)) c1 c2 ?_
        show ∀ v H', Same H2 H' → Rep g.toGh _ β2 H' v (.bl true) → _
        intro v H3 sm rp
        cases rp
        refine ⟨true, rfl, ?_⟩
        rw [if_pos rfl]
        have s3 := Stp.grow s2.box sm
        have R3 := R2.stp s3
        replace h := AskE.from R2 s3 h
        refine evE_step R3 (fun r3 v3 F4 β4 H4 e3 s4 x3 => ?_) (fun x bx1 e => ?_) fun e => ?_
        · rw [e3, bind_ok] at h
          have R4 := R3.stp s4
          have d2 := (((x2.con R1 s2).keep s3 s2.box fun p z => (R2.lent z).2.1).keep s4 s3.box fun p z => (R3.lent z).2.1).up (F' := fun p => F4 p ∨ Lent vs σ (r2.l ++ r3.l) p) fun p z => z.imp id (Lent.up fun i m => List.mem_append_left _ m)
          have d3 := (x3.con R3 s4).up (F' := fun p => F4 p ∨ Lent vs σ (r2.l ++ r3.l) p) fun p z => z.imp id (Lent.up fun i m => List.mem_append_right _ m)
          split at h
          · rename_i k eo'
            refine hd' _ _ _ _ _ _ _ _ _ _ _ eo' (Lent.box R4 (r2.l ++ r3.l)) d2 d3 ?_
            show ∀ v H', Same H4 H' → Rep g.toGh _ β4 H' v (.bl k) → _
            intro v H5 sm5 rp
            cases rp
            exact h (.bl k) F4 β4 H5 (s4.trans (Stp.grow s4.box sm5)) (.bl k)
          · exact h.elim
        · rw [e] at h; exact h
        · rw [e] at h; exact h
      · rename_i eo
        refine hd _ _ _ _ _ _ _ _ _ _ _ eo (Lent.box R2 (r1.l ++ r2.l)) c1 c2 ?_
        show ∀ v H', Same H2 H' → Rep g.toGh _ β2 H' v (.bl false) → _
        intro v H3 sm rp
        cases rp
        refine ⟨false, rfl, ?_⟩
        rw [if_neg Bool.false_ne_true]
        exact h (.bl false) F2 β2 H3 (Stp.grow s2.box sm) (.bl false)
      · exact h.elim
    · rw [e] at h; exact h
    · rw [e] at h; exact h
  · rw [e] at h; exact h
  · rw [e] at h; exact h

/-! ### arguments, displays -/
def evNil : SemA := fun _ _ bx => .ok ⟨[], [], bx⟩
def evConsS (f : SemE) (r : SemA) : SemA := fun c vs bx => (f c vs bx).bind fun a => (r c vs a.bx).bind fun q => .ok ⟨a.d :: q.ds, a.ls ++ q.l, q.bx⟩
def evConsC (f : SemE) (r : SemA) : SemA := fun c vs bx => (f c vs bx).bind fun a => (r c vs a.bx).bind fun q => .ok ⟨a.d :: q.ds, a.l ++ q.l, q.bx⟩
def AskA (g : Gx) (W : WX) (σ : L2.St) (F : Addr → Prop) (β : List Addr) (H : Hp) (P : (Addr → Prop) → List Addr → Hp → AR → Prop) (res : Res AR) : Prop := match res with
  | .ok r => ∀ F' β' H', Stp g.toGh F β H F' β' H' r.bx → P F' β' H' r
  | .exc x bx' => ∀ cls d F' β' H', Stp g.toGh F β H F' β' H' bx' → XR g x cls d H' → W cls d σ H'
  | .stuck => False
theorem nilS_imp {σ : L2.St} {H : Hp} {Q : List V → Hp → Prop} (h : tEvAS g W fns evNil σ H Q) : tNil σ H Q := by
  obtain ⟨b, F, β, vs, bx, R, h⟩ := h
  exact h [] F β H (.refl R.box) .nil
theorem nilC_imp {σ : L2.St} {H : Hp} {Q : List V → Hp → Prop} (h : tEvAC g W fns evNil σ H Q) : tNil σ H Q := by
  obtain ⟨b, F, β, vs, bx, R, h⟩ := h
  exact h [] F β H (.refl R.box) .nil
theorem Rep.stpL {G : Gh} {b : Bse} {F F' : Addr → Prop} {β β' : List Addr} {H H' : Hp} {σ : L2.St} {vs : Vs} {bx bx' : Bx} {l : List Nat} {v : V} {d : D} (R : RelS G b F β H σ vs bx) (s : Stp G F β H F' β' H' bx')
    (r : Rep G (fun p => F p ∨ Lent vs σ l p) β H v d) : Rep G (fun p => F' p ∨ Lent vs σ l p) β' H' v d := r.keep (s.keepsL R.box fun p z => (R.lent z).2.1)
theorem consS_imp {f : SemE} {r : SemA} {σ : L2.St} {H : Hp} {Q : List V → Hp → Prop} (h : tEvAS g W fns (evConsS f r) σ H Q) : tCons (tEvE g W fns f) (tEvAS g W fns r) σ H Q := by
  obtain ⟨b, F, β, vs, bx, R, h⟩ := h
  unfold evConsS at h
  refine evE_step R (fun r1 v1 F1 β1 H1 e1 s1 x1 => ?_) (fun x bx1 e => ?_) fun e => ?_
  · rw [e1, bind_ok] at h
    obtain ⟨F2, s2, up, rp⟩ := x1.shr R s1
    have R2 := R.stp s2
    refine ⟨b, F2, β1, vs, r1.bx, R2, ?_⟩
    cases e2 : r fns vs r1.bx with
    | stuck => rw [e2] at h; exact h
    | exc x bx2 => rw [e2] at h; exact fun cls d F' β' H' s' xr => h cls d F' β' H' (s2.trans s') xr
    | ok q =>
      rw [e2, bind_ok] at h
      intro xs F3 β3 H3 s3 rs
      refine h (v1 :: xs) F3 β3 H3 (s2.trans s3) (.cons ?_ ?_)
      · exact (Rep.stpL R2 s3 rp).up fun p z => z.imp id (Lent.up fun i m => List.mem_append_left _ m)
      · exact rs.up fun p z => z.imp id (Lent.up fun i m => List.mem_append_right _ m)
  · rw [e] at h; exact h
  · rw [e] at h; exact h
theorem consC_imp {f : SemE} {r : SemA} {σ : L2.St} {H : Hp} {Q : List V → Hp → Prop} (h : tEvAC g W fns (evConsC f r) σ H Q) : tCons (tEvE g W fns f) (tEvAC g W fns r) σ H Q := by
  obtain ⟨b, F, β, vs, bx, R, h⟩ := h
  unfold evConsC at h
  refine evE_step R (fun r1 v1 F1 β1 H1 e1 s1 x1 => ?_) (fun x bx1 e => ?_) fun e => ?_
  · rw [e1, bind_ok] at h
    have cn := x1.con R s1
    have R2 := R.stp s1
    refine ⟨b, F1, β1, vs, r1.bx, R2, ?_⟩
    cases e2 : r fns vs r1.bx with
    | stuck => rw [e2] at h; exact h
    | exc x bx2 => rw [e2] at h; exact fun cls d F' β' H' s' xr => h cls d F' β' H' (s1.trans s') xr
    | ok q =>
      rw [e2, bind_ok] at h
      intro xs F3 β3 H3 s3 rs
      refine h (v1 :: xs) F3 β3 H3 (s1.trans s3) (.cons ?_ ?_)
      · exact (cn.keep s3 s1.box fun p z => (R2.lent z).2.1).up fun p z => z.imp id (Lent.up fun i m => List.mem_append_left _ m)
      · exact rs.up fun p z => z.imp id (Lent.up fun i m => List.mem_append_right _ m)
  · rw [e] at h; exact h
  · rw [e] at h; exact h
def tupD (ds : List D) : Option (D × Bool) := if ds.length ≤ lim then some (.tup ds, false) else none
def lstD (ds : List D) : Option (D × Bool) := if ds.length ≤ lim then some (.lst ds, true) else none
def evDisp (o : List D → Option (D × Bool)) (f : SemA) : SemE := fun c vs bx => (f c vs bx).bind fun r => fin (o r.ds) r.l r.bx
theorem evTup_imp {f : SemA} {σ : L2.St} {H : Hp} {Q : VK} (h : tEvE g W fns (evDisp tupD f) σ H Q) : tTup (tEvAS g W fns f) σ H Q := by
  obtain ⟨b, F, β, vs, bx, R, h⟩ := h
  unfold evDisp at h
  refine ⟨b, F, β, vs, bx, R, ?_⟩
  cases e1 : f fns vs bx with
  | stuck => rw [e1] at h; exact h
  | exc x bx1 => rw [e1] at h; exact h
  | ok r1 =>
    rw [e1, bind_ok] at h
    intro xs F1 β1 H1 s1 x1
    obtain ⟨d, fr, eo, bxr, out⟩ := fin_ok R s1 h
    unfold tupD at eo
    split at eo
    · rename_i hl
      cases eo
      refine ⟨by rw [x1.length, lim_eq]; exact hl, fun p hp => ?_⟩
      have k := (Stp.new (o := .tup xs) bxr hp).keeps (K := g.K) bxr
      exact out.val (same_new hp) (.tup (.of upd_same) (RepAll.keep k x1))
    · cases eo
theorem evLst_imp {f : SemA} {σ : L2.St} {H : Hp} {Q : VK} (h : tEvE g W fns (evDisp lstD f) σ H Q) : tLst (tEvAS g W fns f) σ H Q := by
  obtain ⟨b, F, β, vs, bx, R, h⟩ := h
  unfold evDisp at h
  refine ⟨b, F, β, vs, bx, R, ?_⟩
  cases e1 : f fns vs bx with
  | stuck => rw [e1] at h; exact h
  | exc x bx1 => rw [e1] at h; exact h
  | ok r1 =>
    rw [e1, bind_ok] at h
    intro xs F1 β1 H1 s1 x1
    obtain ⟨d, fr, eo, bxr, out⟩ := fin_ok R s1 h
    unfold lstD at eo
    split at eo
    · rename_i hl
      cases eo
      refine ⟨by rw [x1.length, lim_eq]; exact hl, fun p hp => ?_⟩
      have k := (Stp.new (o := .lst xs) bxr hp).keeps (K := g.K) bxr
      exact out.new (same_new hp) hp ⟨_, upd_same, RepAll.keep k x1⟩
    · cases eo
end
end Pv

/-! Pv.F: in, items, slices, built-in functions. -/
namespace Pv
open L2 PySem PyProof.Rows PySem.Spec

section
variable {X : Cx}
/-! ### dicts read, the key a tuple of any standing -/
def DGetS (K : PySem.W.Frag) (H : Hp) (a : Addr) (y : V) (r : Option V) : Prop :=
  (∃ kvs k, H a = some (.dK kvs) ∧ y = kV k ∧ r = valV kvs k) ∨ ∃ kvs k b, H a = some (.dT kvs) ∧ y = .ref b ∧ SqT K H b (k.map kV) ∧ r = valV kvs k
variable {pins : List (Addr × Obj)} {σ : L2.St} {H : Hp} {s : Shared} {a : Addr} {y v : V} {u r : Value} {o : Option V} {A : Around} {E : Value → Shared → Prop}
theorem key_ofS {ks : List Key} {b : Addr} (I : Inv X pins σ H s) (e : SqT X.K H b (ks.map kV)) : (tupleKind (mixKind X.prog X.w)).is s.heap ks b := by
  obtain ⟨its, r, ⟨o, h1, h2, n, h3⟩, _⟩ := I.tuple e
  exact ⟨o, its.toArray, n, h1, h2, h3, by simpa using items_are r⟩
theorem ds_getItem {Q : Value → Shared → Prop} (hu : A.units + 1 < cLine) (I : Inv X pins σ H s) (g : DGetS X.K H a y (some v)) (ry : RelV y u) (h : ∀ w' s', Inv X pins σ H s' → RelV v w' → Q w' s') :
    wpAny (model X.prog X.w) A (getItem (.ref a) u) Q E s := by
  rcases g with ⟨kvs, k, e, ey, l⟩ | ⟨kvs, k, b, e, ey, eb, l⟩
  · exact d_getItem hu I (.inl ⟨kvs, k, .inl e, ey, l⟩) ry h
  · subst ey
    cases (show u = Value.ref b from ry)
    obtain ⟨z, hd, xs, rel, dd⟩ := dt_rd I.hok (.inl e)
    obtain ⟨w', hw, rw'⟩ := RelO.some_of (v := v) (o := (atKey xs k).map (·.2)) (by rw [l]; exact rel.val k)
    obtain ⟨p, hp, hp2⟩ := Option.map_eq_some_iff.mp hw
    refine wpAny_getItem_heap (tupleKind_room_in1 hu) (key_ofS I eb) dd hp ?_
    rw [hp2]
    exact h w' _ (I.tok _) rw'
theorem ds_in {Q : Value → Shared → Prop} (hu : A.units + 1 < cLine) (I : Inv X pins σ H s) (g : DGetS X.K H a y o) (ry : RelV y u) (h : ∀ s', Inv X pins σ H s' → Q (.bool o.isSome) s') :
    wpAny (model X.prog X.w) A (compareOp .In u (.ref a)) Q E s := by
  rcases g with ⟨kvs, k, e, ey, l⟩ | ⟨kvs, k, b, e, ey, eb, l⟩
  · exact d_in hu I (.inl ⟨kvs, k, .inl e, ey, l⟩) ry h
  · subst ey
    cases (show u = Value.ref b from ry)
    obtain ⟨z, hd, xs, rel, dd⟩ := dt_rd I.hok (.inl e)
    refine wpAny_in_heap (tupleKind_room_in1 hu) (key_ofS I eb) hd dd ?_
    have q := (rel.val k).isSome_eq
    rw [Option.isSome_map] at q
    rw [← q, ← l]
    exact h _ (I.tok _)
theorem ds_notIn {Q : Value → Shared → Prop} (hu : A.units + 1 < cLine) (I : Inv X pins σ H s) (g : DGetS X.K H a y o) (ry : RelV y u) (h : ∀ s', Inv X pins σ H s' → Q (.bool (!o.isSome)) s') :
    wpAny (model X.prog X.w) A (compareOp .NotIn u (.ref a)) Q E s := by
  rcases g with ⟨kvs, k, e, ey, l⟩ | ⟨kvs, k, b, e, ey, eb, l⟩
  · exact d_notIn hu I (.inl ⟨kvs, k, .inl e, ey, l⟩) ry h
  · subst ey
    cases (show u = Value.ref b from ry)
    obtain ⟨z, hd, xs, rel, dd⟩ := dt_rd I.hok (.inl e)
    refine wpAny_notIn_heap (tupleKind_room_in1 hu) (key_ofS I eb) hd dd ?_
    have q := (rel.val k).isSome_eq
    rw [Option.isSome_map] at q
    rw [← q, ← l]
    exact h _ (I.tok _)
theorem dictS_typeIs (I : Inv X pins σ H s) (g : DGetS X.K H a y o) : s.TypeIs (.ref a) "dict" := by
  have z : ∃ o, s.heap.get? a = some o ∧ o.ExactDict := by
    rcases g with ⟨kvs, k, hk, _⟩ | ⟨kvs, k, b, hk, _⟩
    · obtain ⟨_, _, _, _, o, _, _, e, ex, _⟩ := I.hok a _ hk
      exact ⟨o, e, ex⟩
    · obtain ⟨_, _, _, _, o, _, _, e, ex, _⟩ := I.hok a _ hk
      exact ⟨o, e, ex⟩
  obtain ⟨o, e, ex⟩ := z
  exact ⟨o, e, ex.1⟩
/-! ### x in c -/
def rInT (K : PySem.W.Frag) : R2 := fun x y H Q => ∃ d ds, Dp K H x d ∧ Dp K H y (.tuple ds) ∧ SeqAt.shaped d = true ∧ SeqAt.shaped (.tuple ds) = true ∧ Q (.bl (ds.any fun z => PyData.eqv z d)) H
def rNotInT (K : PySem.W.Frag) : R2 := fun x y H Q => ∃ d ds, Dp K H x d ∧ Dp K H y (.tuple ds) ∧ SeqAt.shaped d = true ∧ SeqAt.shaped (.tuple ds) = true ∧ Q (.bl (!ds.any fun z => PyData.eqv z d)) H
theorem room_in' {ds : List PyData} {d : PyData} {A : Around} (sd : SeqAt.shaped d = true) (hu : A.units + 65 < cLine) : A.units + 1 + min (PyData.depthAll ds) d.depth < cLine := by
  have h1 := SeqAt.depth_of_shaped sd
  have h2 : min (PyData.depthAll ds) d.depth ≤ d.depth := Nat.min_le_right _ _
  omega
theorem op_inT (hu : X.A.units + 65 < cLine) : OpR X (compareOp .In) (rInT X.K) := by
  intro pins s σ H x y v u Q I rx ry h
  obtain ⟨d, ds, hd, he, sd, se, q⟩ := h
  obtain ⟨as, r1⟩ := Dp.reads I d x v hd rx
  obtain ⟨bs, r2⟩ := Dp.reads I (.tuple ds) y u he ry
  exact SeqAt.in_tuple_reads r2 r1 (SeqAt.canLay_of_shaped se) (SeqAt.canLay_of_shaped sd) (room_in' sd hu) ⟨.bl _, H, I, rfl, q⟩
theorem op_notInT (hu : X.A.units + 65 < cLine) : OpR X (compareOp .NotIn) (rNotInT X.K) := by
  intro pins s σ H x y v u Q I rx ry h
  obtain ⟨d, ds, hd, he, sd, se, q⟩ := h
  obtain ⟨as, r1⟩ := Dp.reads I d x v hd rx
  obtain ⟨bs, r2⟩ := Dp.reads I (.tuple ds) y u he ry
  exact SeqAt.notIn_tuple_reads r2 r1 (SeqAt.canLay_of_shaped se) (SeqAt.canLay_of_shaped sd) (room_in' sd hu) ⟨.bl _, H, I, rfl, q⟩
def rInDict (K : PySem.W.Frag) : R2 := fun x y H Q => ∃ a o, y = .ref a ∧ DGetS K H a x o ∧ Q (.bl o.isSome) H
def rNotInDict (K : PySem.W.Frag) : R2 := fun x y H Q => ∃ a o, y = .ref a ∧ DGetS K H a x o ∧ Q (.bl (!o.isSome)) H
theorem op_inDict (hu : X.A.units + 65 < cLine) : OpR X (compareOp .In) (rInDict X.K) := by
  intro pins s σ H x y v u Q I rx ry h
  obtain ⟨a, o, rfl, g, q⟩ := h
  cases (show u = Value.ref a from ry)
  exact ds_in (by omega) I g rx fun s' I' => ⟨.bl _, H, I', rfl, q⟩
theorem op_notInDict (hu : X.A.units + 65 < cLine) : OpR X (compareOp .NotIn) (rNotInDict X.K) := by
  intro pins s σ H x y v u Q I rx ry h
  obtain ⟨a, o, rfl, g, q⟩ := h
  cases (show u = Value.ref a from ry)
  exact ds_notIn (by omega) I g rx fun s' I' => ⟨.bl _, H, I', rfl, q⟩
def rInA (K : PySem.W.Frag) : R2 := fun x y H Q => rInD K x y H Q ∨ rInT K x y H Q ∨ rInDict K x y H Q ∨ ∃ i j, x = .str i ∧ y = .str j ∧ Q (.bl (!(Builtin.Str.occurrences j i 0 j.length 1).isEmpty)) H
theorem op_inA (hu : X.A.units + 65 < cLine) : OpR X (compareOp .In) (rInA X.K) := (op_inD hu).or ((op_inT hu).or ((op_inDict hu).or op_in_str))
def rNotInA (K : PySem.W.Frag) : R2 := fun x y H Q => rNotInD K x y H Q ∨ rNotInT K x y H Q ∨ rNotInDict K x y H Q ∨ ∃ i j, x = .str i ∧ y = .str j ∧ Q (.bl (!(!(Builtin.Str.occurrences j i 0 j.length 1).isEmpty))) H
theorem op_notInA (hu : X.A.units + 65 < cLine) : OpR X (compareOp .NotIn) (rNotInA X.K) := (op_notInD hu).or ((op_notInT hu).or ((op_notInDict hu).or op_notin_str))
/-! ### d[k] -/
def rIxD (K : PySem.W.Frag) : R2 := fun x y H Q => ∃ a v, x = .ref a ∧ DGetS K H a y (some v) ∧ Q v H
theorem ix_dict (hu : X.A.units + 65 < cLine) : IxR X (rIxD X.K) := by
  intro value slice pins s σ H x y v u Q I rx ry h hs
  obtain ⟨a, z, rfl, g, q⟩ := h
  cases (show v = Value.ref a from rx)
  have hT := dictS_typeIs I g
  have h₂ : wpAny (model X.prog X.w) X.A (getItem (.ref a) u) (EP X pins σ Q) X.xe s := ds_getItem (by omega) I g ry fun w' s3 I3 rw' => ⟨z, H, I3, rw', q⟩
  unfold subscriptTail
  refine wpAny_bind ?_
  rw [getitemInPython_of_ne hT.not_modules]
  refine wpAny_bind (wpAny_specialOf hT PySem.F.slot_dict_getitem.lookup ?_)
  have fin : wpAny (model X.prog X.w) X.A (subscripted slice false (.ref a) u) (fun r s₃ => wpAny (model X.prog X.w) X.A (letTemporaryGo value (.ref a) r >>= fun _ => pure r) (EP X pins σ Q) X.xe s₃) X.xe s := by
    rw [hs]
    exact wpAny_operating (wpAny_mono h₂ (fun r s₃ h₃ => wpAny_bind (wpAny_letTemporaryGo (wpAny_pure h₃))) fun _ _ x => x)
  exact wpAny_pure (wpAny_bind fin)
def rIxA (K : PySem.W.Frag) : R2 := fun x y H Q => rIx K x y H Q ∨ rIxD K x y H Q
theorem ix_all (hu : X.A.units + 65 < cLine) : IxR X (rIxA X.K) := ix_seq.or (ix_dict hu)
end

section
variable {g : Gh} {F : Addr → Prop} {β : List Addr} {H : Hp} {bx : Bx}
/-! ### keys -/
def toKey : D → Option Key
  | .int i => some (.inl i)
  | .str x => some (.inr x)
  | _ => none
def toKeys : List D → Option (List Key)
  | [] => some []
  | d :: ds => match toKey d, toKeys ds with
    | some k, some ks => some (k :: ks)
    | _, _ => none
def fndK {κ : Type} [DecidableEq κ] (kvs : List (κ × D)) (k : κ) : Option D := match kvs with
  | [] => none
  | p :: r => if p.1 = k then some p.2 else fndK r k
theorem toKey_ok {d : D} {v : V} {k : Key} (h : toKey d = some k) (c : Rep g F β H v d) : v = kV k := by
  cases d <;> first | (cases h; done) | (cases h; cases c; rfl)
theorem Con.key {d : D} {v : V} {k : Key} (h : toKey d = some k) (c : Con g F β H v d) : v = kV k := by
  cases d <;> first | (cases h; done) | skip
  · cases h; exact c.int
  · cases h; exact c.str
theorem toKeys_ok : ∀ {ds : List D} {us : List V} {ks : List Key}, toKeys ds = some ks → RepAll g F β H us ds → us = ks.map kV
  | [], _, _, h, .nil => by cases h; rfl
  | d :: ds, _, ks, h, .cons a b => by
    simp only [toKeys] at h
    split at h
    · rename_i k ks' e1 e2
      cases h
      rw [toKey_ok e1 a, toKeys_ok e2 b]; rfl
    · cases h
theorem fndK_ok {κ : Type} [DecidableEq κ] : ∀ {ks : List (κ × V)} {ds : List (κ × D)} {k : κ}, ks.map (·.1) = ds.map (·.1) → RepAll g F β H (ks.map (·.2)) (ds.map (·.2)) →
    (fndK ds k = none → valV ks k = none) ∧ ∀ d, fndK ds k = some d → ∃ v, valV ks k = some v ∧ Rep g F β H v d
  | [], [], k, _, _ => ⟨fun _ => rfl, fun _ h => by cases h⟩
  | [], _ :: _, _, h, _ => by simp at h
  | _ :: _, [], _, h, _ => by simp at h
  | p :: ks, q :: ds, k, h, r => by
    simp only [List.map_cons, List.cons.injEq] at h
    simp only [List.map_cons] at r
    cases r with
    | cons a b =>
      have ih := fndK_ok (k := k) h.2 b
      simp only [fndK]
      by_cases e : q.1 = k
      · have e' : p.1 = k := h.1.trans e
        rw [if_pos e, valV_pos e']
        exact ⟨fun z => (by cases z), fun d z => (by cases z; exact ⟨_, rfl, a⟩)⟩
      · have e' : ¬ p.1 = k := fun z => e (h.1.symm.trans z)
        rw [if_neg e, valV_neg e']
        exact ih
/-! ### in -/
def inB (x c : D) : Option Bool := match c with
  | .lst ds => if x.isData 60 && D.isData 60 (.lst ds) then some (ds.any fun z => deq z x) else none
  | .tup ds => if x.isData 60 && D.isData 60 (.tup ds) then some (ds.any fun z => deq z x) else none
  | .dK ks => match toKey x with
    | some k => some (fndK ks k).isSome
    | none => none
  | .dT ks => match x with
    | .tup xs => match toKeys xs with
      | some k => some (fndK ks k).isSome
      | none => none
    | _ => none
  | .str s => match x with
    | .str t => some (!(Builtin.Str.occurrences s t 0 s.length 1).isEmpty)
    | _ => none
  | _ => none
def inD (x c : D) : Option (D × Bool) := match inB x c with
  | some b => some (.bl b, false)
  | none => none
def ninD (x c : D) : Option (D × Bool) := match inB x c with
  | some b => some (.bl (!b), false)
  | none => none
theorem any_toP {x : D} (hx : x.isData 60 = true) : ∀ (ds : List D), areData 59 ds = true → ((toPs ds).any fun z => PyData.eqv z x.toP) = ds.any fun z => deq z x
  | [], _ => rfl
  | d :: ds, h => by
    have q := Bool.and_eq_true_iff.mp (by simpa [areData] using h)
    simp only [toPs, List.any_cons]
    rw [deq_toP 59 60 d x q.1 hx, any_toP hx ds q.2]
theorem in_ok {r : R2} (hl : ∀ x y H Q, rInD g.K x y H Q → r x y H Q) (ht : ∀ x y H Q, rInT g.K x y H Q → r x y H Q) (hd : ∀ x y H Q, rInDict g.K x y H Q → r x y H Q)
    (hs : ∀ i j H Q, Q (.bl (!(Builtin.Str.occurrences j i 0 j.length 1).isEmpty)) H → r (.str i) (.str j) H Q) : OpD g r inD := by
  intro F β H bx x y d1 d2 d fr Q h b c1 c2 out
  unfold inD at h
  split at h
  · rename_i k e
    cases h
    cases d2 <;> simp only [inB] at e <;> first | (cases e; done) | skip
    · cases d1 <;> simp only at e <;> first | (cases e; done) | skip
      cases e
      rw [c1.str, c2.str]
      exact hs _ _ _ _ (out.val0 (.bl _))
    · split at e
      · rename_i hh
        have q := Bool.and_eq_true_iff.mp hh
        cases e
        refine ht _ _ _ _ ⟨_, _, c1.dp q.1, by simpa [D.toP] using c2.dp q.2, isData_shaped q.1, by simpa [D.toP] using isData_shaped q.2, ?_⟩
        rw [any_toP q.1 _ (by simpa [D.isData] using q.2)]
        exact out.val0 (.bl _)
      · cases e
    · split at e
      · rename_i hh
        have q := Bool.and_eq_true_iff.mp hh
        cases e
        refine hl _ _ _ _ ⟨_, _, c1.dp q.1, by simpa [D.toP] using c2.dp q.2, isData_shaped q.1, by simpa [D.toP] using isData_shaped q.2, ?_⟩
        rw [any_toP q.1 _ (by simpa [D.isData] using q.2)]
        exact out.val0 (.bl _)
      · cases e
    · rename_i kvs
      cases ek : toKey d1 with
      | none => rw [ek] at e; cases e
      | some kk =>
        rw [ek] at e
        cases e
        obtain ⟨p, us, rfl, ep, _, e2, rr⟩ := c2
        have q := fndK_ok (k := kk) e2 rr
        refine hd _ _ _ _ ⟨p, valV us kk, rfl, .inl ⟨us, kk, ep, c1.key ek, rfl⟩, ?_⟩
        have e3 : (valV us kk).isSome = (fndK kvs kk).isSome := by
          cases z : fndK kvs kk with
          | none => rw [q.1 z]; rfl
          | some d => obtain ⟨v, ev, _⟩ := q.2 d z; rw [ev]; rfl
        rw [e3]
        exact out.val0 (.bl _)
    · cases d1 <;> simp only at e <;> first | (cases e; done) | skip
      rename_i kvs xs
      cases ek : toKeys xs with
      | none => rw [ek] at e; cases e
      | some kk =>
        rw [ek] at e
        cases e
        obtain ⟨p, us, rfl, ep, _, e2, rr⟩ := c2
        obtain ⟨bb, ws, rfl, sb, rb⟩ := c1.tup
        have q := fndK_ok (k := kk) e2 rr
        have ew := toKeys_ok ek rb
        refine hd _ _ _ _ ⟨p, valV us kk, rfl, .inr ⟨us, kk, bb, ep, rfl, by rw [← ew]; exact sb, rfl⟩, ?_⟩
        have e3 : (valV us kk).isSome = (fndK kvs kk).isSome := by
          cases z : fndK kvs kk with
          | none => rw [q.1 z]; rfl
          | some d => obtain ⟨v, ev, _⟩ := q.2 d z; rw [ev]; rfl
        rw [e3]
        exact out.val0 (.bl _)
  · cases h
theorem inD_ok : OpD g (rInA g.K) inD := in_ok (fun _ _ _ _ h => .inl h) (fun _ _ _ _ h => .inr (.inl h)) (fun _ _ _ _ h => .inr (.inr (.inl h))) fun i j H Q h => .inr (.inr (.inr ⟨i, j, rfl, rfl, h⟩))
theorem ninD_ok : OpD g (rNotInA g.K) ninD := by
  intro F β H bx x y d1 d2 d fr Q h b c1 c2 out
  unfold ninD at h
  split at h
  · rename_i k e
    cases h
    have hin : inD d1 d2 = some (.bl k, false) := by unfold inD; rw [e]
    have q := in_ok (g := g) (r := fun x y H Q => rNotInA g.K x y H fun v H' => ∀ z, v = .bl (!z) → Q (.bl z) H')
      (fun x y H Q ⟨d, ds, a, b, c, e, q⟩ => .inl ⟨d, ds, a, b, c, e, fun z ez => by
        have : (ds.any fun z => PyData.eqv z d) = z := by simpa using ez
        rw [← this]; exact q⟩)
      (fun x y H Q ⟨d, ds, a, b, c, e, q⟩ => .inr (.inl ⟨d, ds, a, b, c, e, fun z ez => by
        have : (ds.any fun z => PyData.eqv z d) = z := by simpa using ez
        rw [← this]; exact q⟩))
      (fun x y H Q ⟨a, o, e1, e2, q⟩ => .inr (.inr (.inl ⟨a, o, e1, e2, fun z ez => by
        have : o.isSome = z := by cases o <;> cases z <;> simp_all
        rw [← this]; exact q⟩)))
      (fun i j H Q q => .inr (.inr (.inr ⟨i, j, rfl, rfl, fun z ez => by
        have : (!(Builtin.Str.occurrences j i 0 j.length 1).isEmpty) = z := by simpa using ez
        rw [← this]; exact q⟩)))
      F β H bx x y d1 d2 (.bl k) false (fun v H' => ∀ z, v = .bl z → Q (.bl (!z)) H') hin b c1 c2 ?_
    · -- from the wish of the one to the wish of the other
      have mono : ∀ {Q1 Q2 : VK}, (∀ v H', Q1 v H' → Q2 v H') → rNotInA g.K x y H Q1 → rNotInA g.K x y H Q2 := by
        intro Q1 Q2 hq z
        rcases z with ⟨d, ds, a, b, c, e, q⟩ | ⟨d, ds, a, b, c, e, q⟩ | ⟨a, o, e1, e2, q⟩ | ⟨i, j, e1, e2, q⟩
        · exact .inl ⟨d, ds, a, b, c, e, hq _ _ q⟩
        · exact .inr (.inl ⟨d, ds, a, b, c, e, hq _ _ q⟩)
        · exact .inr (.inr (.inl ⟨a, o, e1, e2, hq _ _ q⟩))
        · exact .inr (.inr (.inr ⟨i, j, e1, e2, hq _ _ q⟩))
      -- every answer of the rule is a bool
      have bools : ∀ {Q1 : VK}, rNotInA g.K x y H Q1 → rNotInA g.K x y H fun v H' => (∃ b, v = .bl b) ∧ Q1 v H' := by
        intro Q1 z
        rcases z with ⟨d, ds, a, b, c, e, q⟩ | ⟨d, ds, a, b, c, e, q⟩ | ⟨a, o, e1, e2, q⟩ | ⟨i, j, e1, e2, q⟩
        · exact .inl ⟨d, ds, a, b, c, e, ⟨_, rfl⟩, q⟩
        · exact .inr (.inl ⟨d, ds, a, b, c, e, ⟨_, rfl⟩, q⟩)
        · exact .inr (.inr (.inl ⟨a, o, e1, e2, ⟨_, rfl⟩, q⟩))
        · exact .inr (.inr (.inr ⟨i, j, e1, e2, ⟨_, rfl⟩, q⟩))
      refine mono (fun v H' ⟨⟨bb, ev⟩, hz⟩ => ?_) (bools q)
      subst ev
      have := hz (!bb) (by simp) (!bb) rfl
      simpa using this
    · show ∀ v H', Same H H' → Rep g F β H' v (.bl k) → _
      intro v H' sm rp z ez
      cases rp
      cases ez
      exact out.val sm (.bl _)
  · cases h
/-! ### items -/
def atD (xs : List D) (i : Int) : Option D := if 0 ≤ i then xs[i.toNat]? else if -(xs.length : Int) ≤ i then xs[(i + xs.length).toNat]? else none
theorem atI_of {us : List V} {ds : List D} {i : Int} {d : D} (r : RepAll g F β H us ds) (h : atD ds i = some d) : ∃ v, atI us i = some v ∧ Rep g F β H v d := by
  have hl := r.length
  unfold atD at h
  unfold atI ixN
  split at h
  · rename_i h0
    obtain ⟨v, e, q⟩ := r.get h
    have hlt : i.toNat < us.length := (List.getElem?_eq_some_iff.mp e).1
    rw [if_pos h0, if_pos (by omega)]
    exact ⟨v, e, q⟩
  · rename_i h0
    split at h
    · rename_i h1
      obtain ⟨v, e, q⟩ := r.get h
      rw [if_neg h0, if_pos (by omega)]
      refine ⟨v, ?_, q⟩
      show us[(i + us.length).toNat]? = some v
      rw [hl]; exact e
    · cases h
def ixD (x i : D) : Option (D × Bool) := match x with
  | .lst xs => match i with | .int k => (atD xs k).map fun d => (d, false) | _ => none
  | .tup xs => match i with | .int k => (atD xs k).map fun d => (d, false) | _ => none
  | .dK ks => match toKey i with | some k => (fndK ks k).map fun d => (d, false) | none => none
  | .dT ks => match i with
    | .tup xs => match toKeys xs with | some k => (fndK ks k).map fun d => (d, false) | none => none
    | _ => none
  | .str s => match i with
    | .int k => if s.length ≤ lim then (match atI s.cps.toList k with | some c => some (.str ⟨#[c]⟩, false) | none => none) else none
    | _ => none
  | _ => none
theorem ixD_ok : OpD g (rIxA g.K) ixD := by
  intro F β H bx x y d1 d2 d fr Q h b c1 c2 out
  cases d1 <;> simp only [ixD] at h <;> first | (cases h; done) | skip
  · cases d2 <;> simp only at h <;> first | (cases h; done) | skip
    split at h
    · rename_i hl
      split at h
      · rename_i c ec
        cases h
        exact .inl (.inr (.inr ⟨_, _, c, c1.str, c2.int, by rw [lim_eq]; exact hl, ec, out.val0 (.str _)⟩))
      · cases h
    · cases h
  · cases d2 <;> simp only at h <;> first | (cases h; done) | skip
    rw [Option.map_eq_some_iff] at h
    obtain ⟨z, e, ez⟩ := h
    cases ez
    obtain ⟨p, us, rfl, ep, r⟩ := c1.tup
    obtain ⟨v, ev, rv⟩ := atI_of r e
    exact .inl (.inr (.inl ⟨p, us, _, v, rfl, c2.int, ep, ev, out.val0 rv⟩))
  · cases d2 <;> simp only at h <;> first | (cases h; done) | skip
    rw [Option.map_eq_some_iff] at h
    obtain ⟨z, e, ez⟩ := h
    cases ez
    obtain ⟨p, us, rfl, ep, _, r⟩ := c1
    obtain ⟨v, ev, rv⟩ := atI_of r e
    exact .inl (.inl ⟨p, us, _, v, rfl, c2.int, .of ep, ev, out.val0 rv⟩)
  · cases ek : toKey d2 with
    | none => rw [ek] at h; cases h
    | some kk =>
      rw [ek] at h
      simp only at h
      rw [Option.map_eq_some_iff] at h
      obtain ⟨z, e, ez⟩ := h
      cases ez
      obtain ⟨p, us, rfl, ep, _, e2, rr⟩ := c1
      obtain ⟨v, ev, rv⟩ := (fndK_ok (k := kk) e2 rr).2 _ e
      exact .inr ⟨p, v, rfl, .inl ⟨us, kk, ep, c2.key ek, ev.symm⟩, out.val0 rv⟩
  · cases d2 <;> simp only at h <;> first | (cases h; done) | skip
    rename_i xs
    cases ek : toKeys xs with
    | none => rw [ek] at h; cases h
    | some kk =>
      rw [ek] at h
      simp only at h
      rw [Option.map_eq_some_iff] at h
      obtain ⟨z, e, ez⟩ := h
      cases ez
      obtain ⟨p, us, rfl, ep, _, e2, rr⟩ := c1
      obtain ⟨bb, ws, rfl, sb, rb⟩ := c2.tup
      obtain ⟨v, ev, rv⟩ := (fndK_ok (k := kk) e2 rr).2 _ e
      exact .inr ⟨p, v, rfl, .inr ⟨us, kk, bb, ep, rfl, by rw [← toKeys_ok ek rb]; exact sb, ev.symm⟩, out.val0 rv⟩

/-! ### built-in functions -/
theorem ConAll.one {xs : List V} {d : D} (c : ConAll g F β H xs [d]) : ∃ x, xs = [x] ∧ Con g F β H x d := by
  cases c with
  | cons a b => cases b; exact ⟨_, rfl, a⟩
theorem ConAll.two {xs : List V} {d e : D} (c : ConAll g F β H xs [d, e]) : ∃ x y, xs = [x, y] ∧ Con g F β H x d ∧ Con g F β H y e := by
  cases c with
  | cons a b =>
    obtain ⟨y, rfl, c⟩ := ConAll.one b
    exact ⟨_, _, rfl, a, c⟩
def lenD (ds : List D) : Option (D × Bool) := match ds with
  | [.lst xs] => some (.int xs.length, false)
  | [.tup xs] => some (.int xs.length, false)
  | [.str s] => if s.length ≤ lim then some (.int s.length, false) else none
  | _ => none
def rLenA (K : PySem.W.Frag) : List V → Hp → VK → Prop := fun xs H Q => ∃ x n, xs = [x] ∧ LenV K x H n ∧ Q (.int n) H
theorem lenD_ok : CallD g (rLenA g.K) lenD := by
  intro F β H bx xs ds d fr Q h b c out
  unfold lenD at h
  split at h
  · cases h
    obtain ⟨x, rfl, p, us, rfl, e, _, r⟩ := c.one
    exact ⟨_, us.length, rfl, .inl ⟨us, .of e, rfl⟩, by rw [r.length]; exact out.val0 (.int _)⟩
  · cases h
    obtain ⟨x, rfl, c1⟩ := c.one
    obtain ⟨p, us, rfl, e, r⟩ := c1.tup
    exact ⟨_, us.length, rfl, .inr ⟨us, e, rfl⟩, by rw [r.length]; exact out.val0 (.int _)⟩
  · split at h
    · rename_i hl
      cases h
      obtain ⟨x, rfl, c1⟩ := c.one
      exact ⟨_, _, rfl, by rw [c1.str]; exact ⟨by rw [lim_eq]; exact hl, rfl⟩, out.val0 (.int _)⟩
    · cases h
  · cases h
def absD (ds : List D) : Option (D × Bool) := match ds with
  | [.int i] => some (.int (if i < 0 then -i else i), false)
  | _ => none
def rAbs : List V → Hp → VK → Prop := fun xs H Q => ∃ i, xs = [.int i] ∧ Q (.int (if i < 0 then -i else i)) H
theorem absD_ok : CallD g rAbs absD := by
  intro F β H bx xs ds d fr Q h b c out
  unfold absD at h
  split at h
  · cases h
    obtain ⟨x, rfl, c1⟩ := c.one
    exact ⟨_, by rw [c1.int], out.val0 (.int _)⟩
  · cases h
def intD (ds : List D) : Option (D × Bool) := match ds with
  | [.int i] => some (.int i, false)
  | [.bl k] => some (.int (if k then 1 else 0), false)
  | _ => none
def rInt1 : List V → Hp → VK → Prop := fun xs H Q => (∃ i, xs = [.int i] ∧ Q (.int i) H) ∨ ∃ k, xs = [.bl k] ∧ Q (.int (if k then 1 else 0)) H
theorem intD_ok : CallD g rInt1 intD := by
  intro F β H bx xs ds d fr Q h b c out
  unfold intD at h
  split at h
  · cases h
    obtain ⟨x, rfl, c1⟩ := c.one
    exact .inl ⟨_, by rw [c1.int], out.val0 (.int _)⟩
  · cases h
    obtain ⟨x, rfl, c1⟩ := c.one
    exact .inr ⟨_, by rw [c1.bl], out.val0 (.int _)⟩
  · cases h
def gcdD (ds : List D) : Option (D × Bool) := match ds with
  | [.int i, .int j] => some (.int ((Nat.gcd i.natAbs j.natAbs : Nat) : Int), false)
  | _ => none
theorem gcdD_ok : CallD g rGcd gcdD := by
  intro F β H bx xs ds d fr Q h b c out
  unfold gcdD at h
  split at h
  · cases h
    obtain ⟨x, y, rfl, c1, c2⟩ := c.two
    exact ⟨_, _, by rw [c1.int, c2.int], out.val0 (.int _)⟩
  · cases h
def combD (ds : List D) : Option (D × Bool) := match ds with
  | [.int i, .int j] => if decide (0 ≤ i) && decide (0 ≤ j) && decide (i ≤ 18000) then some (.int (PySem.W.mcComb i j), false) else none
  | _ => none
def rComb : List V → Hp → VK → Prop := fun xs H Q => ∃ i j, xs = [.int i, .int j] ∧ 0 ≤ i ∧ 0 ≤ j ∧ i ≤ 18000 ∧ Q (.int (PySem.W.mcComb i j)) H
theorem cr_comb {X : Cx} : CallR X (.builtin "math.comb") rComb := by
  intro pins s σ H vs us Q I r h
  obtain ⟨a, b, rfl, h1, h2, h3, q⟩ := h
  obtain ⟨t, u, rfl⟩ := Vals.int2 r
  exact PySem.W.mc_comb h1 h2 (by omega) (.inr h3) fun _ => ⟨.int _, H, I.tok _, ⟨_, rfl⟩, q⟩
theorem combD_ok : CallD g rComb combD := by
  intro F β H bx xs ds d fr Q h b c out
  unfold combD at h
  split at h
  · split at h
    · rename_i hh
      simp only [Bool.and_eq_true, decide_eq_true_eq] at hh
      cases h
      obtain ⟨x, y, rfl, c1, c2⟩ := c.two
      exact ⟨_, _, by rw [c1.int, c2.int], hh.1.1, hh.1.2, hh.2, out.val0 (.int _)⟩
    · cases h
  · cases h
def listD (ds : List D) : Option (D × Bool) := match ds with
  | [.lst xs] => some (.lst xs, true)
  | [.tup xs] => some (.lst xs, true)
  | [.scr ns] => some (.lst (ns.map .int), true)
  | _ => none
def rListA (K : PySem.W.Frag) : List V → Hp → VK → Prop := fun xs H Q => ∃ p ys, xs = [.ref p] ∧ (SqL K H p ys ∨ SqT K H p ys) ∧ ∀ l, H l = none → Q (.ref l) (upd H l (.lst ys))
theorem listD_ok : CallD g (rListA g.K) listD := by
  intro F β H bx xs ds d fr Q h b c out
  unfold listD at h
  split at h
  · cases h
    obtain ⟨x, rfl, p, us, rfl, e, _, r⟩ := c.one
    refine ⟨p, us, rfl, .inl (.of e), fun l hl => ?_⟩
    have k := (Stp.new (o := .lst us) b hl).keeps (K := g.K) b
    exact out.new (same_new hl) hl ⟨_, upd_same, RepAll.keep k r⟩
  · cases h
    obtain ⟨x, rfl, c1⟩ := c.one
    obtain ⟨p, us, rfl, e, r⟩ := c1.tup
    refine ⟨p, us, rfl, .inr e, fun l hl => ?_⟩
    have k := (Stp.new (o := .lst us) b hl).keeps (K := g.K) b
    exact out.new (same_new hl) hl ⟨_, upd_same, RepAll.keep k r⟩
  · cases h
    obtain ⟨x, rfl, c1⟩ := c.one
    cases (show Rep g F β H x (.scr _) from c1) with
    | scr e =>
      refine ⟨_, _, rfl, .inl ?_, fun l hl => out.new (same_new hl) hl ⟨_, upd_same, RepAll.of_ints⟩⟩
      rcases e with ⟨_, r⟩ | (r | r)
      · exact .inl r
      · rcases r with r | ⟨_, r⟩ <;> cases r
      · exact .inr r
  · cases h
def tupleD (ds : List D) : Option (D × Bool) := match ds with
  | [.lst xs] => some (.tup xs, false)
  | [.tup xs] => some (.tup xs, false)
  | _ => none
def rTupleA (K : PySem.W.Frag) : List V → Hp → VK → Prop := fun xs H Q => ∃ p ys, xs = [.ref p] ∧ ((SqL K H p ys ∧ ∀ l, H l = none → Q (.ref l) (upd H l (.tup ys))) ∨ (SqT K H p ys ∧ Q (.ref p) H))
theorem tupleD_ok : CallD g (rTupleA g.K) tupleD := by
  intro F β H bx xs ds d fr Q h b c out
  unfold tupleD at h
  split at h
  · cases h
    obtain ⟨x, rfl, p, us, rfl, e, _, r⟩ := c.one
    refine ⟨p, us, rfl, .inl ⟨.of e, fun l hl => ?_⟩⟩
    have k := (Stp.new (o := .tup us) b hl).keeps (K := g.K) b
    exact out.val (same_new hl) (.tup (.of upd_same) (RepAll.keep k r))
  · cases h
    obtain ⟨x, rfl, c1⟩ := c.one
    obtain ⟨p, us, rfl, e, r⟩ := c1.tup
    exact ⟨p, us, rfl, .inr ⟨e, out.val0 (.tup e r)⟩⟩
  · cases h
/-- the ints of a list -/
def intsOf : List D → Option (List Int)
  | [] => some []
  | .int i :: ds => match intsOf ds with | some ns => some (i :: ns) | none => none
  | _ => none
theorem intsOf_ok : ∀ {ds : List D} {ns : List Int}, intsOf ds = some ns → ds = ns.map D.int
  | [], _, h => by cases h; rfl
  | d :: ds, ns, h => by
    cases d <;> first | (cases h; done) | skip
    simp only [intsOf] at h
    split at h
    · rename_i ms e
      cases h
      rw [intsOf_ok e]; rfl
    · cases h
def blsOf : List D → Option (List Bool)
  | [] => some []
  | .bl i :: ds => match blsOf ds with | some ns => some (i :: ns) | none => none
  | _ => none
theorem blsOf_ok : ∀ {ds : List D} {ns : List Bool}, blsOf ds = some ns → ds = ns.map D.bl
  | [], _, h => by cases h; rfl
  | d :: ds, ns, h => by
    cases d <;> first | (cases h; done) | skip
    simp only [blsOf] at h
    split at h
    · rename_i ms e
      cases h
      rw [blsOf_ok e]; rfl
    · cases h
theorem RepAll.bls {vs : List V} {ns : List Bool} (r : RepAll g F β H vs (ns.map D.bl)) : vs = ns.map V.bl := by
  induction ns generalizing vs with
  | nil => cases r; rfl
  | cons n ns ih => cases r with | cons a b => cases a; simp [ih b]
def maxL : Int → List Int → Int
  | m, [] => m
  | m, x :: r => maxL (if x > m then x else m) r
def minL : Int → List Int → Int
  | m, [] => m
  | m, x :: r => minL (if x < m then x else m) r
theorem maxL_ge : ∀ (r : List Int) (m : Int), m ≤ maxL m r ∧ (∀ y ∈ r, y ≤ maxL m r) ∧ (maxL m r = m ∨ maxL m r ∈ r)
  | [], m => ⟨Int.le_refl _, by simp, .inl rfl⟩
  | x :: r, m => by
    have ih := maxL_ge r (if x > m then x else m)
    simp only [maxL]
    split at ih <;> rename_i hx
    · rw [if_pos hx]
      refine ⟨by omega, fun y hy => ?_, ?_⟩
      · rcases List.mem_cons.mp hy with rfl | hy
        · exact ih.1
        · exact ih.2.1 y hy
      · rcases ih.2.2 with e | e
        · exact .inr (by rw [e]; exact List.mem_cons_self)
        · exact .inr (List.mem_cons_of_mem _ e)
    · rw [if_neg hx]
      refine ⟨ih.1, fun y hy => ?_, ?_⟩
      · rcases List.mem_cons.mp hy with rfl | hy
        · omega
        · exact ih.2.1 y hy
      · exact ih.2.2.imp id (List.mem_cons_of_mem _)
theorem minL_le : ∀ (r : List Int) (m : Int), minL m r ≤ m ∧ (∀ y ∈ r, minL m r ≤ y) ∧ (minL m r = m ∨ minL m r ∈ r)
  | [], m => ⟨Int.le_refl _, by simp, .inl rfl⟩
  | x :: r, m => by
    have ih := minL_le r (if x < m then x else m)
    simp only [minL]
    split at ih <;> rename_i hx
    · rw [if_pos hx]
      refine ⟨by omega, fun y hy => ?_, ?_⟩
      · rcases List.mem_cons.mp hy with rfl | hy
        · exact ih.1
        · exact ih.2.1 y hy
      · rcases ih.2.2 with e | e
        · exact .inr (by rw [e]; exact List.mem_cons_self)
        · exact .inr (List.mem_cons_of_mem _ e)
    · rw [if_neg hx]
      refine ⟨ih.1, fun y hy => ?_, ?_⟩
      · rcases List.mem_cons.mp hy with rfl | hy
        · omega
        · exact ih.2.1 y hy
      · exact ih.2.2.imp id (List.mem_cons_of_mem _)
def sumD (ds : List D) : Option (D × Bool) := match ds with
  | [.lst xs] => match intsOf xs with | some ns => some (.int ns.sum, false) | none => none
  | _ => none
def maxD (ds : List D) : Option (D × Bool) := match ds with
  | [.lst xs] => match intsOf xs with | some (n :: ns) => some (.int (maxL n ns), false) | _ => none
  | [.int i, .int j] => some (.int (if j > i then j else i), false)
  | _ => none
def minD (ds : List D) : Option (D × Bool) := match ds with
  | [.lst xs] => match intsOf xs with | some (n :: ns) => some (.int (minL n ns), false) | _ => none
  | [.int i, .int j] => some (.int (if j < i then j else i), false)
  | _ => none
def allD (ds : List D) : Option (D × Bool) := match ds with
  | [.lst xs] => match blsOf xs with | some ns => some (.bl (ns.all id), false) | none => none
  | _ => none
def anyD (ds : List D) : Option (D × Bool) := match ds with
  | [.lst xs] => match blsOf xs with | some ns => some (.bl (ns.any id), false) | none => none
  | _ => none
theorem sumD_ok : CallD g (rSum g.K) sumD := by
  intro F β H bx xs ds d fr Q h b c out
  unfold sumD at h
  split at h
  · split at h
    · rename_i ns e
      cases h
      have e' := intsOf_ok e
      subst e'
      obtain ⟨x, rfl, p, us, rfl, ep, _, r⟩ := c.one
      have eu := r.ints
      subst eu
      exact ⟨p, ns, rfl, .of ep, out.val0 (.int _)⟩
    · cases h
  · cases h
theorem allD_ok : CallD g (rAll g.K) allD := by
  intro F β H bx xs ds d fr Q h b c out
  unfold allD at h
  split at h
  · split at h
    · rename_i ns e
      cases h
      have e' := blsOf_ok e
      subst e'
      obtain ⟨x, rfl, p, us, rfl, ep, _, r⟩ := c.one
      have eu := r.bls
      subst eu
      exact ⟨p, ns, rfl, .of ep, out.val0 (.bl _)⟩
    · cases h
  · cases h
theorem anyD_ok : CallD g (rAny g.K) anyD := by
  intro F β H bx xs ds d fr Q h b c out
  unfold anyD at h
  split at h
  · split at h
    · rename_i ns e
      cases h
      have e' := blsOf_ok e
      subst e'
      obtain ⟨x, rfl, p, us, rfl, ep, _, r⟩ := c.one
      have eu := r.bls
      subst eu
      exact ⟨p, ns, rfl, .of ep, out.val0 (.bl _)⟩
    · cases h
  · cases h
def rMaxA (K : PySem.W.Frag) : List V → Hp → VK → Prop := fun xs H Q => rMax K xs H Q ∨ ∃ i j, xs = [.int i, .int j] ∧ Q (.int (if j > i then j else i)) H
def rMinA (K : PySem.W.Frag) : List V → Hp → VK → Prop := fun xs H Q => rMin K xs H Q ∨ ∃ i j, xs = [.int i, .int j] ∧ Q (.int (if j < i then j else i)) H
theorem maxD_ok : CallD g (rMaxA g.K) maxD := by
  intro F β H bx xs ds d fr Q h b c out
  unfold maxD at h
  split at h
  · split at h
    · rename_i n ns e
      cases h
      have e' := intsOf_ok e
      subst e'
      obtain ⟨x, rfl, p, us, rfl, ep, _, r⟩ := c.one
      have eu := r.ints
      subst eu
      refine .inl ⟨p, n :: ns, rfl, .of ep, by simp, fun m hm hle => ?_⟩
      have q := maxL_ge ns n
      have e1 : m = maxL n ns := by
        apply Int.le_antisymm
        · rcases List.mem_cons.mp hm with rfl | hm
          · exact q.1
          · exact q.2.1 m hm
        · rcases q.2.2 with e | e
          · rw [e]; exact hle n List.mem_cons_self
          · exact hle _ (List.mem_cons_of_mem _ e)
      rw [e1]
      exact out.val0 (.int _)
    · cases h
  · cases h
    obtain ⟨x, y, rfl, c1, c2⟩ := c.two
    exact .inr ⟨_, _, by rw [c1.int, c2.int], out.val0 (.int _)⟩
  · cases h
theorem minD_ok : CallD g (rMinA g.K) minD := by
  intro F β H bx xs ds d fr Q h b c out
  unfold minD at h
  split at h
  · split at h
    · rename_i n ns e
      cases h
      have e' := intsOf_ok e
      subst e'
      obtain ⟨x, rfl, p, us, rfl, ep, _, r⟩ := c.one
      have eu := r.ints
      subst eu
      refine .inl ⟨p, n :: ns, rfl, .of ep, by simp, fun m hm hle => ?_⟩
      have q := minL_le ns n
      have e1 : m = minL n ns := by
        apply Int.le_antisymm
        · rcases q.2.2 with e | e
          · rw [e]; exact hle n List.mem_cons_self
          · exact hle _ (List.mem_cons_of_mem _ e)
        · rcases List.mem_cons.mp hm with rfl | hm
          · exact q.1
          · exact q.2.1 m hm
      rw [e1]
      exact out.val0 (.int _)
    · cases h
  · cases h
    obtain ⟨x, y, rfl, c1, c2⟩ := c.two
    exact .inr ⟨_, _, by rw [c1.int, c2.int], out.val0 (.int _)⟩
  · cases h
end
end Pv

/-! Pv.G: statements. -/
namespace Pv
open L2 PySem PyProof.Rows PySem.Spec

inductive Out where
  | next (vs : Vs) (bx : Bx) | ret (d : D) (fr : Bool) (bx : Bx) | brk (vs : Vs) (bx : Bx) | cnt (vs : Vs) (bx : Bx) | exc (x : Xc) (vs : Vs) (bx : Bx) | stuck
abbrev SemS := Fns → Nat → Vs → Bx → Out

/-! ### slots frozen, forgotten -/
def Slot.frz : Slot → Slot
  | .own d => .val d
  | s => s
def freeze : List Nat → Vs → Vs
  | [], vs => vs
  | i :: l, vs => freeze l (vs.set i ((vs.getD i .none).frz))
theorem freeze_length : ∀ (l : List Nat) (vs : Vs), (freeze l vs).length = vs.length
  | [], vs => rfl
  | i :: l, vs => by unfold freeze; rw [freeze_length l]; simp
theorem freeze_get : ∀ (l : List Nat) (vs : Vs) (i : Nat), (freeze l vs)[i]? = if i ∈ l then (vs[i]?).map Slot.frz else vs[i]?
  | [], vs, i => by simp [freeze]
  | j :: l, vs, i => by
    unfold freeze
    rw [freeze_get l]
    by_cases hj : j = i
    · subst hj
      rw [if_pos (List.mem_cons_self)]
      by_cases hl : j < vs.length
      · rw [List.getElem?_set_self hl, List.getElem?_eq_getElem hl]
        simp only [List.getD_eq_getElem?_getD, List.getElem?_eq_getElem hl, Option.getD_some, Option.map_some]
        split
        · cases vs[j] <;> rfl
        · rfl
      · rw [List.getElem?_eq_none (by simpa using hl), List.getElem?_eq_none (by simpa using hl)]
        simp
    · rw [List.getElem?_set_ne hj]
      by_cases hi : i ∈ l
      · rw [if_pos hi, if_pos (List.mem_cons_of_mem _ hi)]
      · rw [if_neg hi, if_neg]
        intro z
        rcases List.mem_cons.mp z with z | z
        · exact hj z.symm
        · exact hi z

section
variable {g : Gh} {b b' : Bse} {F F' F'' L M : Addr → Prop} {β β' β'' : List Addr} {H H' H'' : Hp} {bx bx' bx'' : Bx} {σ σ' : L2.St} {vs vs' : Vs} {p : Addr} {d : D} {v : V} {l : List Nat}

theorem RelS.freeze (R : RelS g b F β H σ vs bx) (l : List Nat) : RelS g b (fun p => F p ∨ Lent vs σ l p) β H σ (Pv.freeze l vs) bx := by
  refine ⟨R.good, ⟨R.ext.hp, fun p f => .inl (R.ext.fm p f), fun p f => ?_⟩, R.pre, R.nw, Lent.box R l, by rw [freeze_length]; exact R.len, fun i s e => ?_, fun i j di dj p e1 e2 e3 e4 => ?_⟩
  · rcases f with f | ⟨i, hi, ⟨d, e⟩, es⟩
    · exact R.ext.fn p f
    · obtain ⟨q, e1, _, _, m, _⟩ := R.own e
      rw [e1] at es; cases es
      exact .inr m
  · rw [freeze_get] at e
    have up : ∀ p, F p → F p ∨ Lent vs σ l p := fun p f => .inl f
    split at e
    · rename_i hi
      cases e1 : vs[i]? with
      | none => rw [e1] at e; cases e
      | some s0 =>
        rw [e1] at e
        simp only [Option.map_some, Option.some.injEq] at e
        subst e
        have q := R.slot i s0 e1
        cases s0 with
        | none => trivial
        | val d => obtain ⟨v, e2, r⟩ := q; exact ⟨v, e2, r.up up⟩
        | own d =>
          obtain ⟨p, e2, nf, nb, m, o⟩ := q
          exact ⟨.ref p, e2, (o.up up).rep (.inr ⟨i, hi, ⟨d, e1⟩, e2⟩)⟩
    · rename_i hi
      have q := R.slot i s e
      cases s with
      | none => trivial
      | val d => obtain ⟨v, e2, r⟩ := q; exact ⟨v, e2, r.up up⟩
      | own d =>
        obtain ⟨p, e2, nf, nb, m, o⟩ := q
        refine ⟨p, e2, fun z => z.elim nf fun ⟨j, hj, ⟨dj, ej⟩, esj⟩ => hi ?_, nb, m, o.up up⟩
        rw [R.inj i j d dj p e ej e2 esj]
        exact hj
  · have ow : ∀ (i : Nat) (di : D), (Pv.freeze l vs)[i]? = some (.own di) → vs[i]? = some (.own di) := fun i di e => by
      rw [freeze_get] at e
      split at e
      · cases e1 : vs[i]? with
        | none => rw [e1] at e; cases e
        | some s0 => rw [e1] at e; cases s0 <;> cases e
      · exact e
    exact R.inj i j di dj p (ow i di e1) (ow j dj e2) e3 e4
/-- a slot is set to a value -/
theorem RelS.setVal (R : RelS g b F β H σ vs bx) (i : Nat) (r : Rep g F β H v d) : RelS g b F β H (σ.set i (some v)) (vs.set i (.val d)) bx := by
  refine ⟨R.good, R.ext, R.pre, R.nw, R.box, by simpa using R.len, fun j s e => ?_, fun j k dj dk p e1 e2 e3 e4 => ?_⟩
  · by_cases hj : i = j
    · subst hj
      have hl : i < vs.length := by
        have := (List.getElem?_eq_some_iff.mp e).1
        simpa using this
      rw [List.getElem?_set_self hl] at e
      cases e
      exact ⟨v, by rw [List.getElem?_set_self (by rw [← R.len]; exact hl)], r⟩
    · rw [List.getElem?_set_ne hj] at e
      have q := R.slot j s e
      cases s with
      | none => trivial
      | val d => obtain ⟨v, e2, r⟩ := q; exact ⟨v, by rw [List.getElem?_set_ne hj]; exact e2, r⟩
      | own d => obtain ⟨p, e2, q⟩ := q; exact ⟨p, by rw [List.getElem?_set_ne hj]; exact e2, q⟩
  · have nj : ∀ (j : Nat) (dj : D), (vs.set i (.val d))[j]? = some (.own dj) → i ≠ j ∧ vs[j]? = some (.own dj) := fun j dj e => by
      by_cases hj : i = j
      · subst hj
        by_cases hl : i < vs.length
        · rw [List.getElem?_set_self hl] at e; cases e
        · rw [List.getElem?_eq_none (by simpa using hl)] at e; cases e
      · rw [List.getElem?_set_ne hj] at e; exact ⟨hj, e⟩
    obtain ⟨h1, q1⟩ := nj j dj e1
    obtain ⟨h2, q2⟩ := nj k dk e2
    rw [List.getElem?_set_ne h1] at e3
    rw [List.getElem?_set_ne h2] at e4
    exact R.inj j k dj dk p q1 q2 e3 e4
/-- .. to a new object of its own -/
theorem RelS.setOwn (R : RelS g b F β H σ vs bx) (i : Nat) (nf : ¬ F p) (nb : ¬ p ∈ β) (m : b.M p ∨ b.H p = none) (o : OwnR g F β H p d) (ap : ∀ (j : Nat) dj, vs[j]? = some (.own dj) → j ≠ i → σ[j]? ≠ some (some (.ref p))) :
    RelS g b F β H (σ.set i (some (.ref p))) (vs.set i (.own d)) bx := by
  refine ⟨R.good, R.ext, R.pre, R.nw, R.box, by simpa using R.len, fun j s e => ?_, fun j k dj dk q e1 e2 e3 e4 => ?_⟩
  · by_cases hj : i = j
    · subst hj
      have hl : i < vs.length := by
        have := (List.getElem?_eq_some_iff.mp e).1
        simpa using this
      rw [List.getElem?_set_self hl] at e
      cases e
      exact ⟨p, by rw [List.getElem?_set_self (by rw [← R.len]; exact hl)], nf, nb, m, o⟩
    · rw [List.getElem?_set_ne hj] at e
      have q := R.slot j s e
      cases s with
      | none => trivial
      | val d => obtain ⟨v, e2, r⟩ := q; exact ⟨v, by rw [List.getElem?_set_ne hj]; exact e2, r⟩
      | own d => obtain ⟨p, e2, q⟩ := q; exact ⟨p, by rw [List.getElem?_set_ne hj]; exact e2, q⟩
  · by_cases h1 : i = j
    · by_cases h2 : i = k
      · rw [← h1, ← h2]
      · exfalso
        rw [List.getElem?_set_ne h2] at e2 e4
        subst h1
        have hl : i < σ.length := by
          have := (List.getElem?_eq_some_iff.mp e3).1
          simpa using this
        rw [List.getElem?_set_self hl] at e3
        cases e3
        exact ap k dk e2 (Ne.symm h2) e4
    · rw [List.getElem?_set_ne h1] at e1 e3
      by_cases h2 : i = k
      · exfalso
        subst h2
        have hl : i < σ.length := by
          have := (List.getElem?_eq_some_iff.mp e4).1
          simpa using this
        rw [List.getElem?_set_self hl] at e4
        cases e4
        exact ap j dj e1 (Ne.symm h1) e3
      · rw [List.getElem?_set_ne h2] at e2 e4
        exact R.inj j k dj dk q e1 e2 e3 e4
/-- what is not frozen and no tuple may be changed -/
theorem keeps_upd {K : PySem.W.Frag} {o o' : HO} (nf : ¬ F p) (hp : H p = some o) (mu : Mut (some o)) : Keeps K F β H F β (upd H p o') := by
  have ne : ∀ a u, H a = some u → ¬ Mut (some u) → a ≠ p := fun a u e n z => by subst z; rw [hp] at e; cases e; exact n mu
  refine ⟨fun _ f => f, fun a us s => ?_, fun a u f _ e => ?_, fun a ob u e => ?_, fun _ _ e => e⟩
  · rcases s with (s | ⟨ob, s⟩) | s
    · exact .inl (.inl (by rw [upd_ne (ne a _ s fun z => z)]; exact s))
    · exact .inl (.inr ⟨ob, by rw [upd_ne (ne a _ s fun z => z)]; exact s⟩)
    · exact .inr s
  · rw [upd_ne (fun z => nf (by rw [← z]; exact f))]; exact e
  · rw [upd_ne (ne a _ e fun z => z)]; exact e
/-- the object that slot i owns is changed -/
theorem RelS.mutate (R : RelS g b F β H σ vs bx) {i : Nat} {d d' : D} {o : HO} (e : vs[i]? = some (.own d)) (es : σ[i]? = some (some (.ref p))) (ho : OwnR g F β (upd H p o) p d') :
    RelS g b F β (upd H p o) σ (vs.set i (.own d')) bx := by
  obtain ⟨q, e1, nf, nb, m, ow⟩ := R.own e
  rw [e1] at es; cases es
  obtain ⟨oo, ep, mu⟩ := ow.there
  obtain ⟨oo', ep', po⟩ := ow.thereP
  have k : Keeps g.K F β H F β (upd H p o) := keeps_upd nf ep mu
  have hl : i < vs.length := (List.getElem?_eq_some_iff.mp e).1
  refine ⟨R.good, ⟨fun a u ea na => ?_, R.ext.fm, R.ext.fn⟩, R.pre, R.nw, ⟨R.box.len, R.box.nd, fun k a ek => ?_, fun a f => ?_, tabs_upd R.box.tab ep' po⟩, by simpa using R.len, fun j s ej => ?_, fun j k dj dk q e1' e2 e3 e4 => ?_⟩
  · have : a ≠ p := fun z => by
      subst z
      rcases m with m | m
      · exact na m
      · rw [m] at ea; cases ea
    rw [upd_ne this]
    exact R.ext.hp a u ea na
  · obtain ⟨n, ns, q1, q2⟩ := R.box.at_ k a ek
    refine ⟨n, ns, q1, ?_⟩
    rw [upd_ne (fun z => nb (by rw [← z]; exact List.mem_of_getElem? ek))]
    exact q2
  · obtain ⟨u, eu⟩ := R.box.th a f
    exact ⟨u, by rw [upd_ne (fun z => nf (by rw [← z]; exact f))]; exact eu⟩
  · by_cases hj : i = j
    · subst hj
      rw [List.getElem?_set_self hl] at ej
      cases ej
      exact ⟨p, e1, nf, nb, m, ho⟩
    · rw [List.getElem?_set_ne hj] at ej
      have q := R.slot j s ej
      cases s with
      | none => trivial
      | val d => obtain ⟨v, e2, r⟩ := q; exact ⟨v, e2, r.keep k⟩
      | own d2 =>
        obtain ⟨a, e2, nf2, nb2, m2, o2⟩ := q
        have : a ≠ p := fun z => hj (R.inj i j d d2 p e ej e1 (by rw [e2, z]))
        exact ⟨a, e2, nf2, nb2, m2, o2.keep k (by rw [upd_ne this])⟩
  · have nj : ∀ (j : Nat) (dj : D), (vs.set i (.own d'))[j]? = some (.own dj) → ∃ d0 : D, vs[j]? = some (.own d0) := fun j dj ej => by
      by_cases hj : i = j
      · subst hj; exact ⟨d, e⟩
      · rw [List.getElem?_set_ne hj] at ej; exact ⟨dj, ej⟩
    obtain ⟨x1, y1⟩ := nj j dj e1'
    obtain ⟨x2, y2⟩ := nj k dk e2
    exact R.inj j k x1 x2 q y1 y2 e3 e4
/-- a box is changed -/
theorem RelS.boxSet (R : RelS g b F β H σ vs bx) {k : Nat} {a : Addr} {ns : List Int} (e : β[k]? = some a) : RelS g b F β (upd H a (.lst (ns.map V.int))) σ vs (bx.set k ns) := by
  obtain ⟨na, ns0, q1, q2⟩ := R.box.at_ k a e
  have hk : k < bx.length := (List.getElem?_eq_some_iff.mp q1).1
  have kp : Keeps g.K F β H F β (upd H a (.lst (ns.map V.int))) := keeps_upd na q2 trivial
  have ma : b.M a ∨ b.H a = none := R.nw a (List.mem_of_getElem? e)
  refine ⟨R.good, ⟨fun x u ex nx => ?_, R.ext.fm, R.ext.fn⟩, R.pre, R.nw, ⟨by simpa using R.box.len, R.box.nd, fun j x ej => ?_, fun x f => ?_, tabs_upd R.box.tab q2 trivial⟩, R.len, fun j s ej => ?_, R.inj⟩
  · have : x ≠ a := fun z => by
      subst z
      rcases ma with m | m
      · exact nx m
      · rw [m] at ex; cases ex
    rw [upd_ne this]
    exact R.ext.hp x u ex nx
  · by_cases hj : k = j
    · subst hj
      rw [e] at ej; cases ej
      exact ⟨na, ns, by rw [List.getElem?_set_self hk], upd_same⟩
    · obtain ⟨n, ms, y1, y2⟩ := R.box.at_ j x ej
      refine ⟨n, ms, by rw [List.getElem?_set_ne hj]; exact y1, ?_⟩
      have : x ≠ a := fun z => by
        subst z
        obtain ⟨h1, z1⟩ := List.getElem?_eq_some_iff.mp e
        obtain ⟨h2, z2⟩ := List.getElem?_eq_some_iff.mp ej
        exact hj ((List.getElem_inj R.box.nd).mp (z1.trans z2.symm))
      rw [upd_ne this]
      exact y2
  · obtain ⟨u, eu⟩ := R.box.th x f
    exact ⟨u, by rw [upd_ne (fun z => na (by rw [← z]; exact f))]; exact eu⟩
  · have q := R.slot j s ej
    cases s with
    | none => trivial
    | val d => obtain ⟨v, e2, r⟩ := q; exact ⟨v, e2, r.keep kp⟩
    | own d2 =>
      obtain ⟨x, e2, nf2, nb2, m2, o2⟩ := q
      exact ⟨x, e2, nf2, nb2, m2, o2.keep kp (by rw [upd_ne (fun z => nb2 (by rw [z]; exact List.mem_of_getElem? e))])⟩

/-! ### a new base -/
def OwnAt (vs : Vs) (σ : L2.St) (p : Addr) : Prop := ∃ (i : Nat) (d : D), vs[i]? = some (.own d) ∧ σ[i]? = some (some (.ref p))
theorem RelS.rebase (R : RelS g b F β H σ vs bx) : RelS g ⟨F, fun p => p ∈ β ∨ OwnAt vs σ p, β, H⟩ F β H σ vs bx := by
  refine ⟨⟨fun p m => ?_, fun p f m => ?_⟩, .refl, fun _ _ e => e, fun p m => .inl (.inl m), R.box, R.len, fun i s e => ?_, R.inj⟩
  · rcases m with m | ⟨i, d, e, es⟩
    · obtain ⟨_, ns, q⟩ := R.box.mem m
      show Mut (H p)
      rw [q]; trivial
    · obtain ⟨q, e1, _, _, _, o⟩ := R.own e
      rw [e1] at es; cases es
      obtain ⟨oo, ep, mu⟩ := o.there
      show Mut (H p)
      rw [ep]; exact mu
  · rcases m with m | ⟨i, d, e, es⟩
    · exact (R.box.mem m).1 f
    · obtain ⟨q, e1, nf, _, _, o⟩ := R.own e
      rw [e1] at es; cases es
      exact nf f
  · have q := R.slot i s e
    cases s with
    | none => trivial
    | val d => exact q
    | own d =>
      obtain ⟨p, e2, nf, nb, m, o⟩ := q
      exact ⟨p, e2, nf, nb, .inl (.inr ⟨i, d, e, e2⟩), o⟩
theorem Ext.based (R : RelS g b F β H σ vs bx) (e : Ext F (fun p => p ∈ β ∨ OwnAt vs σ p) H F' H') : Ext b.F b.M b.H F' H' := by
  have mo : ∀ p, (p ∈ β ∨ OwnAt vs σ p) → b.M p ∨ b.H p = none := fun p m => by
    rcases m with m | ⟨i, d, e1, es⟩
    · exact R.nw p m
    · obtain ⟨q, e2, _, _, m, o⟩ := R.own e1
      rw [e2] at es; cases es
      exact m
  refine ⟨fun p o q n => ?_, fun p f => e.fm p (R.ext.fm p f), fun p f => ?_⟩
  · have nb : ¬ (p ∈ β ∨ OwnAt vs σ p) := fun m => by
      rcases mo p m with z | z
      · exact n z
      · rw [z] at q; cases q
    rcases R.ext.hp p o q n with z | ⟨t, ps, z⟩
    · exact e.hp p o z nb
    · rcases e.hp p _ z nb with y | ⟨_, ps', y⟩
      · exact .inr ⟨t, ps, y⟩
      · exact .inr ⟨t, ps', y⟩
  · rcases e.fn p f with z | z | z
    · exact R.ext.fn p z
    · exact .inr (mo p z)
    · cases q : b.H p with
      | none => exact .inr (.inr rfl)
      | some o =>
        refine .inr (.inl (Classical.byContradiction fun n => ?_))
        obtain ⟨_, this⟩ := R.ext.live q n
        rw [z] at this; cases this
theorem based_new (R : RelS g b F β H σ vs bx) {p : Addr} (m : (p ∈ β ∨ OwnAt vs σ p) ∨ H p = none) : b.M p ∨ b.H p = none := by
  rcases m with (m | ⟨i, d, e1, es⟩) | m
  · exact R.nw p m
  · obtain ⟨q, e2, _, _, m, o⟩ := R.own e1
    rw [e2] at es; cases es
    exact m
  · cases q : b.H p with
    | none => exact .inr rfl
    | some o =>
      refine .inl (Classical.byContradiction fun n => ?_)
      obtain ⟨_, this⟩ := R.ext.live q n
      rw [m] at this; cases this
theorem RelS.based (R : RelS g b F β H σ vs bx) (R' : RelS g ⟨F, fun p => p ∈ β ∨ OwnAt vs σ p, β, H⟩ F' β' H' σ' vs' bx') : RelS g b F' β' H' σ' vs' bx' := by
  refine ⟨R.good, R'.ext.based R, fun k a e => R'.pre k a (R.pre k a e), fun p m => based_new R (R'.nw p m), R'.box, R'.len, fun i s e => ?_, R'.inj⟩
  have q := R'.slot i s e
  cases s with
  | none => trivial
  | val d => exact q
  | own d =>
    obtain ⟨p, e2, nf, nb, m, o⟩ := q
    exact ⟨p, e2, nf, nb, based_new R m, o⟩
/-- what a run returns -/
structure RetR (g : Gh) (b : Bse) (F' : Addr → Prop) (β' : List Addr) (H' : Hp) (v : V) (d : D) (fr : Bool) (bx' : Bx) : Prop where
  ext : Ext b.F b.M b.H F' H'
  pre : ∀ (k : Nat) a, b.β[k]? = some a → β'[k]? = some a
  nw : ∀ p ∈ β', b.M p ∨ b.H p = none
  box : BoxR g F' β' H' bx'
  val : if fr = true then ∃ p, v = .ref p ∧ ¬ F' p ∧ ¬ p ∈ β' ∧ (b.M p ∨ b.H p = none) ∧ OwnR g F' β' H' p d else Rep g F' β' H' v d
theorem RetR.based {fr : Bool} (R : RelS g b F β H σ vs bx) (r : RetR g ⟨F, fun p => p ∈ β ∨ OwnAt vs σ p, β, H⟩ F' β' H' v d fr bx') : RetR g b F' β' H' v d fr bx' := by
  refine ⟨r.ext.based R, fun k a e => r.pre k a (R.pre k a e), fun p m => based_new R (r.nw p m), r.box, ?_⟩
  have q := r.val
  cases fr with
  | true =>
    rw [if_pos rfl] at q ⊢
    obtain ⟨p, e, nf, nb, m, o⟩ := q
    exact ⟨p, e, nf, nb, based_new R m, o⟩
  | false => exact q
end

/-! ### what a statement's value function promises -/
section
variable (g : Gx) (W : WX)
def AskS (b : Bse) (D : Ends) (o : Out) : Prop := match o with
  | .next vs' bx' => ∀ σ' F' β' H', RelS g.toGh b F' β' H' σ' vs' bx' → D.nx σ' H'
  | .ret d fr bx' => ∀ v F' β' H', RetR g.toGh b F' β' H' v d fr bx' → D.rt v H'
  | .brk vs' bx' => ∀ σ' F' β' H', RelS g.toGh b F' β' H' σ' vs' bx' → D.bk σ' H'
  | .cnt vs' bx' => ∀ σ' F' β' H', RelS g.toGh b F' β' H' σ' vs' bx' → D.ct σ' H'
  | .exc x vs' bx' => ∀ cls d σ' F' β' H', RelS g.toGh b F' β' H' σ' vs' bx' → XR g x cls d H' → W cls d σ' H'
  | .stuck => False
def tEvS (fns : Fns) (fuel : Nat) (f : SemS) : TS := fun D σ H => ∃ b F β vs bx, RelS g.toGh b F β H σ vs bx ∧ AskS g W b D (f fns fuel vs bx)
end
def Out.bind (o : Out) (k : Vs → Bx → Out) : Out := match o with
  | .next vs bx => k vs bx
  | o => o
def evSeq (f k : SemS) : SemS := fun c n vs bx => (f c n vs bx).bind fun vs1 bx1 => k c n vs1 bx1
def evSkip : SemS := fun _ _ vs bx => .next vs bx
def evBrk : SemS := fun _ _ vs bx => .brk vs bx
def evCnt : SemS := fun _ _ vs bx => .cnt vs bx
/-- from an expression's result on -/
def Res.out {α : Type} (r : Res α) (vs : Vs) (k : α → Out) : Out := match r with
  | .ok a => k a
  | .exc x bx => .exc x vs bx
  | .stuck => .stuck
def putSlot (i : Nat) (r : ER) (vs : Vs) : Vs := match r.pv with
  | .fr => (freeze r.l vs).set i (.own r.d)
  | _ => (freeze r.ls vs).set i (.val r.d)
def evAsg (i : Nat) (f : SemE) : SemS := fun c _ vs bx => (f c vs bx).out vs fun r => .next (putSlot i r vs) r.bx
def evExpr (f : SemE) : SemS := fun c _ vs bx => (f c vs bx).out vs fun r => .next vs r.bx
def evIfS (t : SemT) (f k : SemS) : SemS := fun c n vs bx => (t c vs bx).out vs fun r => if r.1 = true then f c n vs r.2 else k c n vs r.2
def evRet (f : SemE) : SemS := fun c _ vs bx => (f c vs bx).out vs fun r => match r.pv with
  | .sh => .ret r.d false r.bx
  | .fr => .ret r.d true r.bx
  | .ow _ => .ret r.d true r.bx
def evRetN : SemS := fun _ _ _ bx => .ret .non false bx
section
variable {g : Gx} {W : WX} {fns : Fns} {fuel : Nat} {X : Cx}
theorem tEvS_seq {f k : SemS} {D : Ends} {σ : L2.St} {H : Hp} (h : tEvS g W fns fuel (evSeq f k) D σ H) : tSeq (tEvS g W fns fuel f) (tEvS g W fns fuel k) D σ H := by
  obtain ⟨b, F, β, vs, bx, R, h⟩ := h
  unfold evSeq at h
  refine ⟨b, F, β, vs, bx, R, ?_⟩
  cases e : f fns fuel vs bx with
  | next vs1 bx1 => rw [e] at h; exact fun σ' F' β' H' R' => ⟨b, F', β', vs1, bx1, R', h⟩
  | _ => rw [e] at h; exact h
theorem tEvS_skip {D : Ends} {σ : L2.St} {H : Hp} (h : tEvS g W fns fuel evSkip D σ H) : tNext D σ H := by
  obtain ⟨b, F, β, vs, bx, R, h⟩ := h; exact h σ F β H R
theorem tEvS_brk {D : Ends} {σ : L2.St} {H : Hp} (h : tEvS g W fns fuel evBrk D σ H) : tBreak D σ H := by
  obtain ⟨b, F, β, vs, bx, R, h⟩ := h; exact h σ F β H R
theorem tEvS_cnt {D : Ends} {σ : L2.St} {H : Hp} (h : tEvS g W fns fuel evCnt D σ H) : tCont D σ H := by
  obtain ⟨b, F, β, vs, bx, R, h⟩ := h; exact h σ F β H R
/-- from an expression in a statement -/
theorem out_step {f : SemE} {k : ER → Out} {b : Bse} {D : Ends} {σ : L2.St} {H : Hp} {F : Addr → Prop} {β : List Addr} {vs : Vs} {bx : Bx} {Q : VK} (R : RelS g.toGh b F β H σ vs bx) (h : AskS g W b D ((f fns vs bx).out vs k))
    (hok : ∀ r v F1 β1 H1, f fns vs bx = .ok r → Stp g.toGh F β H F1 β1 H1 r.bx → ResR g.toGh vs σ H F1 β1 H1 r v → AskS g W b D (k r) → Q v H1) : tEvE g W fns f σ H Q := by
  refine evE_step R (fun r v F1 β1 H1 e s x => ?_) (fun x bx1 e => ?_) fun e => ?_
  · rw [e] at h; exact hok r v F1 β1 H1 e s x h
  · rw [e] at h
    exact fun cls d F' β' H' s xr => h cls d σ F' β' H' (R.stp s) xr
  · rw [e] at h; exact h
theorem Lent.ap {G : Gh} {b : Bse} {F : Addr → Prop} {β : List Addr} {H : Hp} {σ : L2.St} {vs : Vs} {bx : Bx} (R : RelS G b F β H σ vs bx) {p : Addr} (h : H p = none) (i : Nat) : ∀ (j : Nat) dj, vs[j]? = some (.own dj) → j ≠ i → σ[j]? ≠ some (some (.ref p)) := fun j dj e _ es => by
  obtain ⟨q, e1, _, _, _, o⟩ := R.own e
  rw [e1] at es; cases es
  obtain ⟨oo, ep, _⟩ := o.there
  rw [h] at ep; cases ep
/-- a result is put into a slot -/
theorem RelS.put {G : Gh} {b : Bse} {F F' : Addr → Prop} {β β' : List Addr} {H H' : Hp} {σ : L2.St} {vs : Vs} {bx : Bx} {r : ER} {v : V} (R : RelS G b F β H σ vs bx) (s : Stp G F β H F' β' H' r.bx) (x : ResR G vs σ H F' β' H' r v) (i : Nat) :
    ∃ F2, RelS G b F2 β' H' (σ.set i (some v)) (putSlot i r vs) r.bx := by
  have R' := R.stp s
  unfold putSlot
  cases hp : r.pv with
  | fr =>
    simp only
    unfold ResR at x
    rw [hp] at x
    obtain ⟨p, rfl, nf, hn, nb, o⟩ := x
    refine ⟨_, (R'.freeze r.l).setOwn i (fun z => z.elim nf fun ⟨j, _, ⟨dj, ej⟩, esj⟩ => ?_) nb (by
      cases q : b.H p with
      | none => exact .inr rfl
      | some o =>
        refine .inl (Classical.byContradiction fun n => ?_)
        obtain ⟨_, this⟩ := R.ext.live q n
        rw [hn] at this; cases this) o ?_⟩
    · obtain ⟨q, e1, _, _, _, oj⟩ := R.own ej
      rw [e1] at esj; cases esj
      obtain ⟨oo, ep, _⟩ := oj.there
      rw [hn] at ep; cases ep
    · intro j dj ej hj
      have : vs[j]? = some (.own dj) := by
        rw [freeze_get] at ej
        split at ej
        · cases e1 : vs[j]? with
          | none => rw [e1] at ej; cases ej
          | some s0 => rw [e1] at ej; cases s0 <;> cases ej
        · exact ej
      exact Lent.ap R hn i j dj this hj
  | sh =>
    simp only
    obtain ⟨F2, s2, up, rp⟩ := x.shr R s
    exact ⟨_, ((R.stp s2).freeze r.ls).setVal i rp⟩
  | ow j =>
    simp only
    obtain ⟨F2, s2, up, rp⟩ := x.shr R s
    exact ⟨_, ((R.stp s2).freeze r.ls).setVal i rp⟩
theorem tEvS_asg {i : Nat} {f : SemE} {D : Ends} {σ : L2.St} {H : Hp} (h : tEvS g W fns fuel (evAsg i f) D σ H) : tAsg (tEvE g W fns f) (gName i) D σ H := by
  obtain ⟨b, F, β, vs, bx, R, h⟩ := h
  refine out_step R h fun r v F1 β1 H1 e s x q => ?_
  obtain ⟨F2, R2⟩ := R.put s x i
  exact q _ _ _ _ R2
theorem tEvS_expr {f : SemE} {D : Ends} {σ : L2.St} {H : Hp} (h : tEvS g W fns fuel (evExpr f) D σ H) : tDrop (tEvE g W fns f) D σ H := by
  obtain ⟨b, F, β, vs, bx, R, h⟩ := h
  exact out_step R h fun r v F1 β1 H1 e s x q => q _ _ _ _ (R.stp s)
theorem tEvS_if {t : SemT} {f k : SemS} {D : Ends} {σ : L2.St} {H : Hp} (h : tEvS g W fns fuel (evIfS t f k) D σ H) : tIfS (tEvT g W fns t) (tEvS g W fns fuel f) (tEvS g W fns fuel k) D σ H := by
  obtain ⟨b, F, β, vs, bx, R, h⟩ := h
  unfold evIfS at h
  refine evT_step R (fun y bx1 F1 β1 H1 e s => ?_) (fun x bx1 e => ?_) fun e => ?_
  · rw [e] at h
    cases y with
    | true =>
      rw [if_pos rfl]
      exact ⟨b, F1, β1, vs, bx1, R.stp s, h⟩
    | false =>
      rw [if_neg Bool.false_ne_true]
      exact ⟨b, F1, β1, vs, bx1, R.stp s, h⟩
  · rw [e] at h
    exact fun cls d F' β' H' s xr => h cls d σ F' β' H' (R.stp s) xr
  · rw [e] at h; exact h
theorem tEvS_ret {f : SemE} {D : Ends} {σ : L2.St} {H : Hp} (h : tEvS g W fns fuel (evRet f) D σ H) : tRet (tEvE g W fns f) D σ H := by
  obtain ⟨b, F, β, vs, bx, R, h⟩ := h
  refine out_step R h fun r v F1 β1 H1 e s x q => ?_
  have R1 := R.stp s
  have R2 := R1.freeze r.l
  cases hp : r.pv with
  | sh =>
    rw [hp] at q
    unfold ResR at x
    rw [hp] at x
    exact q v _ β1 H1 ⟨R2.ext, R2.pre, R2.nw, R2.box, x⟩
  | fr =>
    rw [hp] at q
    unfold ResR at x
    rw [hp] at x
    obtain ⟨p, rfl, nf, hn, nb, o⟩ := x
    refine q (.ref p) _ β1 H1 ⟨R2.ext, R2.pre, R2.nw, R2.box, ⟨p, rfl, fun z => z.elim nf fun ⟨j, _, ⟨dj, ej⟩, esj⟩ => ?_, nb, ?_, o⟩⟩
    · obtain ⟨q, e1, _, _, _, oj⟩ := R.own ej
      rw [e1] at esj; cases esj
      obtain ⟨oo, ep, _⟩ := oj.there
      rw [hn] at ep; cases ep
    · cases q : b.H p with
      | none => exact .inr rfl
      | some o =>
        refine .inl (Classical.byContradiction fun n => ?_)
        obtain ⟨_, this⟩ := R.ext.live q n
        rw [hn] at this; cases this
  | ow i =>
    rw [hp] at q
    unfold ResR at x
    rw [hp] at x
    obtain ⟨e1, e2⟩ := x
    obtain ⟨p, e3, nf, nb, m, o⟩ := R1.own e1
    rw [e2] at e3; cases e3
    exact q (.ref p) _ β1 H1 ⟨R1.ext, R1.pre, R1.nw, R1.box, ⟨p, rfl, nf, nb, m, o⟩⟩
theorem tEvS_retN {D : Ends} {σ : L2.St} {H : Hp} (h : tEvS g W fns fuel evRetN D σ H) : tRetN D σ H := by
  obtain ⟨b, F, β, vs, bx, R, h⟩ := h
  exact h .non F β H ⟨R.ext, R.pre, R.nw, R.box, .non⟩
end
end Pv

/-! Pv.H: targets, loops, stores. -/
namespace Pv
open L2 PySem PyProof.Rows PySem.Spec

/-! ### targets -/
inductive Tgt where
  | nm (i : Nat) | tp (ts : List Tgt)
  deriving Inhabited
mutual
def Tgt.bind : Tgt → D → Vs → Option Vs
  | .nm i, d, vs => some (vs.set i (.val d))
  | .tp ts, .tup ds, vs => Tgt.binds ts ds vs
  | .tp _, _, _ => none
def Tgt.binds : List Tgt → List D → Vs → Option Vs
  | [], [], vs => some vs
  | t :: ts, d :: ds, vs => match t.bind d vs with
    | some vs1 => Tgt.binds ts ds vs1
    | none => none
  | _, _, _ => none
end
mutual
/-- the slots that are stored -/
def Tgt.ix : Tgt → List Nat
  | .nm i => [i]
  | .tp ts => Tgt.ixs ts
def Tgt.ixs : List Tgt → List Nat
  | [] => []
  | t :: ts => t.ix ++ Tgt.ixs ts
end
section
variable (g : Gx)
def tEvG (tg : Tgt) : TG := fun v σ H Q => ∃ b F β vs bx d, RelS g.toGh b F β H σ vs bx ∧ Rep g.toGh F β H v d ∧ match tg.bind d vs with
  | some vs' => ∀ σ', RelS g.toGh b F β H σ' vs' bx → σ'.length = σ.length → (∀ j, j ∉ tg.ix → σ'[j]? = σ[j]?) → Q σ' H
  | none => False
def tEvGs (ts : List Tgt) : TGs := fun xs σ H Q => ∃ b F β vs bx ds, RelS g.toGh b F β H σ vs bx ∧ RepAll g.toGh F β H xs ds ∧ match Tgt.binds ts ds vs with
  | some vs' => ∀ σ', RelS g.toGh b F β H σ' vs' bx → σ'.length = σ.length → (∀ j, j ∉ Tgt.ixs ts → σ'[j]? = σ[j]?) → Q σ' H
  | none => False
end
section
variable {g : Gx}
theorem tEvG_nm {i : Nat} {v : V} {σ : L2.St} {H : Hp} {Q : L2.St → Hp → Prop} (h : tEvG g (.nm i) v σ H Q) : gName i v σ H Q := by
  obtain ⟨b, F, β, vs, bx, d, R, r, h⟩ := h
  refine h _ (R.setVal i r) (by simp) fun j hj => ?_
  rw [List.getElem?_set_ne]
  intro z
  exact hj (by simp [Tgt.ix, z])
theorem tEvG_tp {ts : List Tgt} {v : V} {σ : L2.St} {H : Hp} {Q : L2.St → Hp → Prop} (h : tEvG g (.tp ts) v σ H Q) : gTup g.K ts.length (tEvGs g ts) v σ H Q := by
  obtain ⟨b, F, β, vs, bx, d, R, r, h⟩ := h
  cases d <;> first | (simp [Tgt.bind] at h; done) | skip
  rename_i ds
  cases r with
  | tup s q =>
    rename_i a us
    refine ⟨a, us, rfl, s, ?_, ?_⟩
    · rw [q.length]
      have hl : ∀ (ts : List Tgt) (ds : List D) (vs : Vs), (Tgt.binds ts ds vs).isSome = true → ds.length = ts.length := by
        intro ts
        induction ts with
        | nil => intro ds vs h; cases ds <;> simp [Tgt.binds] at h ⊢
        | cons t ts ih =>
          intro ds vs h
          cases ds with
          | nil => simp [Tgt.binds] at h
          | cons d ds =>
            simp only [Tgt.binds] at h
            split at h
            · simpa using ih _ _ h
            · simp at h
      apply hl ts ds vs
      simp only [Tgt.bind] at h
      cases e : Tgt.binds ts ds vs with
      | none => rw [e] at h; exact h.elim
      | some z => rfl
    · exact ⟨b, F, β, vs, bx, ds, R, q, h⟩
theorem tEvGs_nil {xs : List V} {σ : L2.St} {H : Hp} {Q : L2.St → Hp → Prop} (h : tEvGs g [] xs σ H Q) : gNil xs σ H Q := by
  obtain ⟨b, F, β, vs, bx, ds, R, r, h⟩ := h
  cases r with
  | nil => exact ⟨rfl, h σ R rfl fun _ _ => rfl⟩
  | cons a b => exact h.elim
theorem tEvGs_cons {t : Tgt} {ts : List Tgt} {xs : List V} {σ : L2.St} {H : Hp} {Q : L2.St → Hp → Prop} (h : tEvGs g (t :: ts) xs σ H Q) : gCons (tEvG g t) (tEvGs g ts) xs σ H Q := by
  obtain ⟨b, F, β, vs, bx, ds, R, r, h⟩ := h
  cases r with
  | nil => exact h.elim
  | cons a r =>
    rename_i v us d ds
    refine ⟨v, us, rfl, b, F, β, vs, bx, d, R, a, ?_⟩
    simp only [Tgt.binds] at h
    cases e : t.bind d vs with
    | none => rw [e] at h; exact h.elim
    | some vs1 =>
      rw [e] at h
      simp only at h
      intro σ1 R1 l1 k1
      refine ⟨b, F, β, vs1, bx, ds, R1, r, ?_⟩
      cases e2 : Tgt.binds ts ds vs1 with
      | none => rw [e2] at h; exact h.elim
      | some vs2 =>
        rw [e2] at h
        intro σ2 R2 l2 k2
        refine h σ2 R2 (l2.trans l1) fun j hj => ?_
        simp only [Tgt.ixs, List.mem_append, not_or] at hj
        rw [k2 j hj.2, k1 j hj.1]
end

/-! ### sources -/
structure IR where
  ds : List D
  l : List Nat
  bx : Bx
abbrev SemI := Fns → Vs → Bx → Res IR
/-- J yields the trees ds, as long as what is frozen stands -/
structure ItR (g : Gh) (F : Addr → Prop) (β : List Addr) (H : Hp) (J : It) (ds : List D) : Prop where
  go : ∀ F' β' H', Keeps g.K F β H F' β' H' → ∀ (i : Nat) d, ds[i]? = some d → J.go i H' ∧ ∀ x H'', J.yld i H' x H'' → Same H' H'' ∧ Rep g F' β' H'' x d
  stop : ∀ F' β' H', Keeps g.K F β H F' β' H' → J.stop ds.length H'
section
variable (g : Gx) (W : WX) (fns : Fns)
def tEvI (f : SemI) : TI := fun σ H R => ∃ b F β vs bx, RelS g.toGh b F β H σ vs bx ∧ match f fns vs bx with
  | .ok r => ∀ J F' β' H', Stp g.toGh F β H F' β' H' r.bx → ItR g.toGh (fun p => F' p ∨ Lent vs σ r.l p) β' H' J r.ds → R J H'
  | .exc x bx' => ∀ cls d F' β' H', Stp g.toGh F β H F' β' H' bx' → XR g x cls d H' → W cls d σ H'
  | .stuck => False
end
def itD : D → Option (List D)
  | .lst ds => some ds
  | .tup ds => some ds
  | _ => none
/-- a value walked: a list or a tuple -/
def evItL (f : SemE) : SemI := fun c vs bx => (f c vs bx).bind fun r => match r.d with
  | .lst ds => .ok ⟨ds, r.ls, r.bx⟩
  | _ => .stuck
def evItT (f : SemE) : SemI := fun c vs bx => (f c vs bx).bind fun r => match r.d with
  | .tup ds => .ok ⟨ds, r.ls, r.bx⟩
  | _ => .stuck
def rgD (a : Int) : Nat → List D
  | 0 => []
  | n + 1 => .int a :: rgD (a + 1) n
theorem rgD_length : ∀ (n : Nat) (a : Int), (rgD a n).length = n
  | 0, _ => rfl
  | n + 1, a => by simp [rgD, rgD_length n]
theorem rgD_get : ∀ (n : Nat) (a : Int) (i : Nat) (d : D), (rgD a n)[i]? = some d → d = .int (a + i) ∧ i < n
  | 0, _, _, _, h => by simp [rgD] at h
  | n + 1, a, 0, d, h => by simp [rgD] at h; subst h; simp
  | n + 1, a, i + 1, d, h => by
    simp only [rgD, List.getElem?_cons_succ] at h
    obtain ⟨e, hl⟩ := rgD_get n (a + 1) i d h
    subst e
    refine ⟨?_, by omega⟩
    congr 1
    omega
def evRng1 (f : SemE) : SemI := fun c vs bx => (f c vs bx).bind fun r => match r.d with
  | .int j => if decide (-4611686018427387904 ≤ j) && decide (j < 4611686018427387904) then .ok ⟨rgD 0 j.toNat, [], r.bx⟩ else .stuck
  | _ => .stuck
def evRng2 (f1 f2 : SemE) : SemI := fun c vs bx => (f1 c vs bx).bind fun r1 => (f2 c vs r1.bx).bind fun r2 => match r1.d, r2.d with
  | .int i, .int j => if decide (-4611686018427387904 ≤ i) && decide (i < 4611686018427387904) && decide (-4611686018427387904 ≤ j) && decide (j < 4611686018427387904) then .ok ⟨rgD i (j - i).toNat, [], r2.bx⟩ else .stuck
  | _, _ => .stuck
section
variable {g : Gx} {W : WX} {fns : Fns} {X : Cx}
theorem evItL_imp (hK : X.K = g.K) {f : SemE} {σ : L2.St} {H : Hp} {R : It → Hp → Prop} (h : tEvI g W fns (evItL f) σ H R) : iList X.K (tEvE g W fns f) σ H R := by
  obtain ⟨b, F, β, vs, bx, RS, h⟩ := h
  unfold evItL at h
  refine evE_step RS (fun r v F1 β1 H1 e s x => ?_) (fun x bx1 e => ?_) fun e => ?_
  · rw [e, bind_ok] at h
    obtain ⟨F2, s2, up, rp⟩ := x.shr RS s
    cases ed : r.d with
    | lst ds =>
      rw [ed] at h rp
      cases rp with
      | lst sl f rr =>
        rename_i a us
        refine ⟨a, rfl, ⟨us, .of sl⟩, h (Itl X.K a) F2 β1 H1 s2 ⟨fun F' β' H' k i d hi => ?_, fun F' β' H' k => ?_⟩⟩
        · have sl' := k.d a (.lst us) f (fun z => z) sl
          obtain ⟨v, ev, rv⟩ := (RepAll.keep k rr).get hi
          refine ⟨⟨us, v, .of sl', ev⟩, fun y H'' hy => ?_⟩
          obtain ⟨e1, hy⟩ := hy
          subst e1
          have := hy us (.of sl')
          rw [ev] at this
          cases this
          exact ⟨same_refl, rv⟩
        · exact ⟨us, .of (k.d a (.lst us) f (fun z => z) sl), by rw [rr.length]; exact Nat.le_refl _⟩
    | _ => rw [ed] at h; exact h.elim
  · rw [e] at h; exact h
  · rw [e] at h; exact h
theorem evItT_imp (hK : X.K = g.K) {f : SemE} {σ : L2.St} {H : Hp} {R : It → Hp → Prop} (h : tEvI g W fns (evItT f) σ H R) : iTup X.K (tEvE g W fns f) σ H R := by
  obtain ⟨b, F, β, vs, bx, RS, h⟩ := h
  unfold evItT at h
  refine evE_step RS (fun r v F1 β1 H1 e s x => ?_) (fun x bx1 e => ?_) fun e => ?_
  · rw [e, bind_ok] at h
    obtain ⟨F2, s2, up, rp⟩ := x.shr RS s
    cases ed : r.d with
    | tup ds =>
      rw [ed] at h rp
      cases rp with
      | tup sl rr =>
        rename_i a us
        refine ⟨a, rfl, ⟨us, by rw [hK]; exact sl⟩, h (Itt X.K a) F2 β1 H1 s2 ⟨fun F' β' H' k i d hi => ?_, fun F' β' H' k => ?_⟩⟩
        · have sl' := k.t a _ sl
          obtain ⟨v, ev, rv⟩ := (RepAll.keep k rr).get hi
          refine ⟨⟨us, v, by rw [hK]; exact sl', ev⟩, fun y H'' hy => ?_⟩
          obtain ⟨e1, hy⟩ := hy
          subst e1
          have := hy us (by rw [hK]; exact sl')
          rw [ev] at this
          cases this
          exact ⟨same_refl, rv⟩
        · exact ⟨us, by rw [hK]; exact k.t a _ sl, by rw [rr.length]; exact Nat.le_refl _⟩
    | _ => rw [ed] at h; exact h.elim
  · rw [e] at h; exact h
  · rw [e] at h; exact h
theorem ItR.range {G : Gh} {F : Addr → Prop} {β : List Addr} {H : Hp} (a : Int) (n : Nat) : ItR G F β H (Itr a n) (rgD a n) := by
  refine ⟨fun F' β' H' k i d hi => ?_, fun F' β' H' k => ?_⟩
  · obtain ⟨rfl, hl⟩ := rgD_get n a i d hi
    refine ⟨hl, fun x H'' hy => ?_⟩
    obtain ⟨e1, e2⟩ := hy
    subst e1 e2
    exact ⟨same_refl, .int _⟩
  · show n ≤ (rgD a n).length
    rw [rgD_length]; exact Nat.le_refl _
theorem evRng1_imp {f : SemE} {σ : L2.St} {H : Hp} {R : It → Hp → Prop} (h : tEvI g W fns (evRng1 f) σ H R) : iRng1 (tCons (tEvE g W fns f) tNil) σ H R := by
  obtain ⟨b, F, β, vs, bx, RS, h⟩ := h
  unfold evRng1 at h
  refine evE_step RS (fun r v F1 β1 H1 e s x => ?_) (fun x bx1 e => ?_) fun e => ?_
  · rw [e, bind_ok] at h
    have cn := x.con RS s
    cases ed : r.d with
    | int j =>
      rw [ed] at h cn
      simp only at h
      by_cases hj : (decide (-4611686018427387904 ≤ j) && decide (j < 4611686018427387904)) = true
      · rw [if_pos hj] at h
        simp only [Bool.and_eq_true, decide_eq_true_eq] at hj
        exact ⟨j, by rw [cn.int], by omega, by omega, h (Itr 0 j.toNat) F1 β1 H1 s (ItR.range 0 _)⟩
      · rw [if_neg hj] at h; exact h.elim
    | _ => rw [ed] at h; exact h.elim
  · rw [e] at h; exact h
  · rw [e] at h; exact h
theorem evRng2_imp {f1 f2 : SemE} {σ : L2.St} {H : Hp} {R : It → Hp → Prop} (h : tEvI g W fns (evRng2 f1 f2) σ H R) : iRng2 (tCons (tEvE g W fns f1) (tCons (tEvE g W fns f2) tNil)) σ H R := by
  obtain ⟨b, F, β, vs, bx, RS, h⟩ := h
  unfold evRng2 at h
  refine evE_step RS (fun r v F1 β1 H1 e s x => ?_) (fun x bx1 e => ?_) fun e => ?_
  · rw [e, bind_ok] at h
    have R1 := RS.stp s
    refine evE_step R1 (fun r2 v2 F2 β2 H2 e2 s2 x2 => ?_) (fun x bx1 e => ?_) fun e => ?_
    · rw [e2, bind_ok] at h
      have c1 := (x.con RS s).keep s2 s.box fun p z => (R1.lent z).2.1
      have c2 := x2.con R1 s2
      cases ed : r.d with
      | int i =>
        cases ed2 : r2.d with
        | int j =>
          rw [ed] at h c1
          rw [ed2] at h c2
          simp only at h
          by_cases hj : (decide (-4611686018427387904 ≤ i) && decide (i < 4611686018427387904) && decide (-4611686018427387904 ≤ j) && decide (j < 4611686018427387904)) = true
          · rw [if_pos hj] at h
            simp only [Bool.and_eq_true, decide_eq_true_eq] at hj
            exact ⟨i, j, by rw [c1.int, c2.int], ⟨by omega, by omega, by omega, by omega⟩, h (Itr i (j - i).toNat) F2 β2 H2 (s.trans s2) (ItR.range i _)⟩
          · rw [if_neg hj] at h; exact h.elim
        | _ => rw [ed, ed2] at h; exact h.elim
      | _ => rw [ed] at h; exact h.elim
    · rw [e] at h
      exact fun cls d F' β' H' s' xr => h cls d F' β' H' (s.trans s') xr
    · rw [e] at h; exact h
  · rw [e] at h; exact h
  · rw [e] at h; exact h
end

/-! ### for -/
def forL (t : Tgt) (body : Vs → Bx → Out) : List D → Vs → Bx → Out
  | [], vs, bx => .next vs bx
  | d :: ds, vs, bx => match t.bind d vs with
    | none => .stuck
    | some vs1 => match body vs1 bx with
      | .next vs2 bx2 => forL t body ds vs2 bx2
      | .cnt vs2 bx2 => forL t body ds vs2 bx2
      | .brk vs2 bx2 => .next vs2 bx2
      | o => o
def evFor (src : SemI) (t : Tgt) (body : SemS) : SemS := fun c n vs bx => (src c vs bx).out vs fun r => forL t (body c n) r.ds (freeze r.l vs) r.bx
section
variable {g : Gx} {W : WX} {fns : Fns} {fuel : Nat} {X : Cx}
theorem RelS.keeps {G : Gh} {b : Bse} {F : Addr → Prop} {β : List Addr} {H : Hp} {σ : L2.St} {vs : Vs} {bx : Bx} {K : PySem.W.Frag} (R : RelS G b F β H σ vs bx) : Keeps K b.F b.β b.H F β H := R.ext.keeps R.good R.pre
/-- from a base of the loop's own back to the base around -/
theorem AskS.based {b : Bse} {D : Ends} {o : Out} {F : Addr → Prop} {β : List Addr} {H : Hp} {σ : L2.St} {vs : Vs} {bx : Bx} (R : RelS g.toGh b F β H σ vs bx) (h : AskS g W b D o) : AskS g W ⟨F, fun p => p ∈ β ∨ OwnAt vs σ p, β, H⟩ D o := by
  cases o with
  | next vs' bx' => exact fun σ' F' β' H' R' => h σ' F' β' H' (R.based R')
  | brk vs' bx' => exact fun σ' F' β' H' R' => h σ' F' β' H' (R.based R')
  | cnt vs' bx' => exact fun σ' F' β' H' R' => h σ' F' β' H' (R.based R')
  | ret d fr bx' => exact fun v F' β' H' r => h v F' β' H' (r.based R)
  | exc x vs' bx' => exact fun cls d σ' F' β' H' R' xr => h cls d σ' F' β' H' (R.based R') xr
  | stuck => exact h
theorem tEvS_for {src : SemI} {t : Tgt} {body : SemS} {D : Ends} {σ : L2.St} {H : Hp} (h : tEvS g W fns fuel (evFor src t body) D σ H) : tFor (tEvI g W fns src) (tEvG g t) (tEvS g W fns fuel body) D σ H := by
  obtain ⟨b, F, β, vs, bx, R, h⟩ := h
  unfold evFor at h
  refine ⟨b, F, β, vs, bx, R, ?_⟩
  cases e : src fns vs bx with
  | stuck => rw [e] at h; exact h
  | exc x bx1 =>
    rw [e] at h
    exact fun cls d F' β' H' s xr => h cls d σ F' β' H' (R.stp s) xr
  | ok r =>
    rw [e] at h
    simp only [Res.out] at h
    intro J F1 β1 H1 s it
    have R1 := (R.stp s).freeze r.l
    have h1 := AskS.based R1 h
    generalize hb : (⟨fun p => F1 p ∨ Lent vs σ r.l p, fun p => p ∈ β1 ∨ OwnAt (freeze r.l vs) σ p, β1, H1⟩ : Bse) = b1 at h1
    have R2 : RelS g.toGh b1 (fun p => F1 p ∨ Lent vs σ r.l p) β1 H1 σ (freeze r.l vs) r.bx := by rw [← hb]; exact R1.rebase
    have it1 : ItR g.toGh b1.F b1.β b1.H J r.ds := by rw [← hb]; exact it
    clear hb
    refine ⟨fun i m σ H => m = r.ds.length - i ∧ i ≤ r.ds.length ∧ ∃ F β vs bx, RelS g.toGh b1 F β H σ vs bx ∧ AskS g W b1 D (forL t (body fns fuel) (r.ds.drop i) vs bx), ⟨r.ds.length, by simp, Nat.zero_le _, _, _, _, _, R2, h1⟩, ?_⟩
    rintro i m σ3 H3 ⟨rfl, hi, F3, β3, vs3, bx3, R3, h3⟩
    have k3 := R3.keeps (K := g.K)
    by_cases hlt : i < r.ds.length
    · rw [List.drop_eq_getElem_cons hlt] at h3
      simp only [forL] at h3
      obtain ⟨go, yl⟩ := it1.go F3 β3 H3 k3 i _ (List.getElem?_eq_getElem hlt)
      refine .inr ⟨go, fun σ' H' => ∃ F' β' vs' bx', RelS g.toGh b1 F' β' H' σ' vs' bx' ∧ AskS g W b1 D (forL t (body fns fuel) (r.ds.drop (i + 1)) vs' bx'), fun σ' H' q => ⟨r.ds.length - (i + 1), by omega, rfl, hlt, q⟩, fun x H4 hy => ?_⟩
      obtain ⟨sm, rp⟩ := yl x H4 hy
      have R4 := R3.stp (Stp.grow R3.box sm)
      refine ⟨b1, F3, β3, vs3, bx3, _, R4, rp, ?_⟩
      cases et : t.bind r.ds[i] vs3 with
      | none => rw [et] at h3; exact h3.elim
      | some vs5 =>
        rw [et] at h3
        simp only at h3
        intro σ5 R5 _ _
        refine ⟨b1, F3, β3, vs5, bx3, R5, ?_⟩
        cases eb : body fns fuel vs5 bx3 with
        | next vs6 bx6 => rw [eb] at h3; exact fun σ' F' β' H' R' => ⟨F', β', vs6, bx6, R', h3⟩
        | cnt vs6 bx6 => rw [eb] at h3; exact fun σ' F' β' H' R' => ⟨F', β', vs6, bx6, R', h3⟩
        | brk vs6 bx6 => rw [eb] at h3; exact h3
        | ret d fr bx6 => rw [eb] at h3; exact h3
        | exc x vs6 bx6 => rw [eb] at h3; exact h3
        | stuck => rw [eb] at h3; exact h3
    · have ei : i = r.ds.length := by omega
      subst ei
      rw [List.drop_length] at h3
      exact .inl ⟨it1.stop F3 β3 H3 k3, h3 σ3 F3 β3 H3 R3⟩
/-! ### while -/
def whileL (t : Vs → Bx → Res (Bool × Bx)) (body : Vs → Bx → Out) : Nat → Vs → Bx → Out
  | 0, _, _ => .stuck
  | n + 1, vs, bx => (t vs bx).out vs fun r => if r.1 = true then (match body vs r.2 with
      | .next vs2 bx2 => whileL t body n vs2 bx2
      | .cnt vs2 bx2 => whileL t body n vs2 bx2
      | .brk vs2 bx2 => .next vs2 bx2
      | o => o) else .next vs r.2
def evWhile (t : SemT) (body : SemS) : SemS := fun c n vs bx => whileL (t c) (body c n) n vs bx
theorem tEvS_while {t : SemT} {body : SemS} {D : Ends} {σ : L2.St} {H : Hp} (h : tEvS g W fns fuel (evWhile t body) D σ H) : tWhile (tEvT g W fns t) (tEvS g W fns fuel body) D σ H := by
  obtain ⟨b, F, β, vs, bx, R, h⟩ := h
  unfold evWhile at h
  refine ⟨fun m σ H => ∃ F β vs bx, RelS g.toGh b F β H σ vs bx ∧ AskS g W b D (whileL (t fns) (body fns fuel) m vs bx), ⟨fuel, F, β, vs, bx, R, h⟩, ?_⟩
  rintro m σ1 H1 ⟨F1, β1, vs1, bx1, R1, h1⟩
  cases m with
  | zero => exact h1.elim
  | succ m =>
    simp only [whileL] at h1
    refine evT_step R1 (fun y bx2 F2 β2 H2 e s => ?_) (fun x bx2 e => ?_) fun e => ?_
    · rw [e] at h1
      simp only [Res.out] at h1
      cases y with
      | true =>
        rw [if_pos rfl] at h1 ⊢
        refine ⟨fun σ' H' => ∃ F' β' vs' bx', RelS g.toGh b F' β' H' σ' vs' bx' ∧ AskS g W b D (whileL (t fns) (body fns fuel) m vs' bx'), fun σ' H' q => ⟨m, Nat.lt_succ_self _, q⟩, b, F2, β2, vs1, bx2, R1.stp s, ?_⟩
        cases eb : body fns fuel vs1 bx2 with
        | next vs6 bx6 => rw [eb] at h1; exact fun σ' F' β' H' R' => ⟨F', β', vs6, bx6, R', h1⟩
        | cnt vs6 bx6 => rw [eb] at h1; exact fun σ' F' β' H' R' => ⟨F', β', vs6, bx6, R', h1⟩
        | brk vs6 bx6 => rw [eb] at h1; exact h1
        | ret d fr bx6 => rw [eb] at h1; exact h1
        | exc x vs6 bx6 => rw [eb] at h1; exact h1
        | stuck => rw [eb] at h1; exact h1
      | false =>
        rw [if_neg Bool.false_ne_true] at h1 ⊢
        exact h1 σ1 F2 β2 H2 (R1.stp s)
    · rw [e] at h1
      exact fun cls d F' β' H' s xr => h1 cls d σ1 F' β' H' (R1.stp s) xr
    · rw [e] at h1; exact h1

/-! ### stores -/
def evAppend (i : Nat) (f : SemE) : SemS := fun c _ vs bx => match vs[i]? with
  | some (.own (.lst ds)) => (f c vs bx).out vs fun r => if i ∈ r.ls then .stuck else if ds.length < lim then .next ((freeze r.ls vs).set i (.own (.lst (ds ++ [r.d])))) r.bx else .stuck
  | _ => .stuck
theorem freeze_own {l : List Nat} {vs : Vs} {i : Nat} {d : D} (e : vs[i]? = some (.own d)) (h : i ∉ l) : (freeze l vs)[i]? = some (.own d) := by rw [freeze_get, if_neg h]; exact e
theorem tEvS_append {i : Nat} {f : SemE} {D : Ends} {σ : L2.St} {H : Hp} (h : tEvS g W fns fuel (evAppend i f) D σ H) : tDrop (tBM g.K "list" rAppend (tVar i) (tCons (tEvE g W fns f) tNil)) D σ H := by
  obtain ⟨b, F, β, vs, bx, R, h⟩ := h
  unfold evAppend at h
  split at h
  · rename_i ds e1
    obtain ⟨p, es, nf, nb, m, us, ep, rr⟩ := R.own e1
    refine ⟨.ref p, es, .inl ⟨rfl, us, .of ep⟩, ?_⟩
    refine out_step R h fun r v F1 β1 H1 e s x q => ?_
    by_cases hi : i ∈ r.ls
    · rw [if_pos hi] at q; exact q.elim
    · rw [if_neg hi] at q
      by_cases hl : ds.length < lim
      · rw [if_pos hl] at q
        obtain ⟨F2, s2, up, rp⟩ := x.shr R s
        have R2 := (R.stp s2).freeze r.ls
        have e2 := freeze_own e1 hi
        obtain ⟨p', es', nf', nb', m', us', ep', rr'⟩ := R2.own e2
        rw [es] at es'; cases es'
        have kp : Keeps g.K (fun p => F2 p ∨ Lent vs σ r.ls p) β1 H1 (fun p => F2 p ∨ Lent vs σ r.ls p) β1 (upd H1 p (.lst (us' ++ [v]))) := keeps_upd nf' ep' trivial
        refine ⟨p, us', v, rfl, rfl, ep', by rw [rr'.length, lim_eq]; exact hl, ?_⟩
        exact q σ _ β1 _ (R2.mutate e2 es ⟨_, upd_same, (RepAll.keep kp rr').append (.cons (rp.keep kp) .nil)⟩)
      · rw [if_neg hl] at q; exact q.elim
  · exact h.elim
end
end Pv

/-! Pv.I: stores by index, comprehensions, calls. -/
namespace Pv
open L2 PySem PyProof.Rows PySem.Spec

section
variable {X : Cx}
def rSetD : V → V → V → Hp → (Hp → Prop) → Prop := fun o i v H Q => ∃ a H', o = .ref a ∧ DPut H a i v H' ∧ Q H'
theorem set_dict (hu : X.A.units + 65 < cLine) : PSet X rSetD := by
  intro pins s σ H o i v ov iv u Q I ro ri rv h
  obtain ⟨a, H', rfl, g, q⟩ := h
  cases (show ov = Value.ref a from ro)
  exact d_setItem (by omega) I g ri rv fun s' I' => ⟨H', I', q⟩
theorem PSet.or {t t' : V → V → V → Hp → (Hp → Prop) → Prop} (h : PSet X t) (h' : PSet X t') : PSet X (fun o i v H Q => t o i v H Q ∨ t' o i v H Q) := by
  intro pins s σ H o i v ov iv u Q I ro ri rv q
  rcases q with q | q
  · exact h pins s σ H o i v ov iv u Q I ro ri rv q
  · exact h' pins s σ H o i v ov iv u Q I ro ri rv q
def rSetA : V → V → V → Hp → (Hp → Prop) → Prop := fun o i v H Q => rSetL o i v H Q ∨ rSetD o i v H Q
theorem set_all (hu : X.A.units + 65 < cLine) : PSet X rSetA := PSet.or set_list (set_dict hu)
end
def putD {κ : Type} [DecidableEq κ] (kvs : List (κ × D)) (k : κ) (d : D) : List (κ × D) :=
  if (fndK kvs k).isSome = true then kvs.map (fun kv => if kv.1 = k then (kv.1, d) else kv) else kvs ++ [(k, d)]
section
variable {g : Gh} {F : Addr → Prop} {β : List Addr} {H : Hp}
theorem fndK_any {κ : Type} [DecidableEq κ] : ∀ {ks : List (κ × V)} {ds : List (κ × D)} {k : κ}, ks.map (·.1) = ds.map (·.1) → (ks.any fun kv => decide (kv.1 = k)) = (fndK ds k).isSome
  | [], [], k, _ => rfl
  | [], _ :: _, _, h => by simp at h
  | _ :: _, [], _, h => by simp at h
  | p :: ks, q :: ds, k, h => by
    simp only [List.map_cons, List.cons.injEq] at h
    simp only [List.any_cons, fndK]
    by_cases e : q.1 = k
    · rw [if_pos e, decide_eq_true (h.1.trans e)]; rfl
    · rw [if_neg e, decide_eq_false (fun z => e (h.1.symm.trans z)), Bool.false_or]
      exact fndK_any h.2
theorem repl_ok {κ : Type} [DecidableEq κ] {k : κ} {v : V} {d : D} (r : Rep g F β H v d) : ∀ {ks : List (κ × V)} {ds : List (κ × D)}, ks.map (·.1) = ds.map (·.1) → RepAll g F β H (ks.map (·.2)) (ds.map (·.2)) →
    ((ks.map fun kv => if kv.1 = k then (kv.1, v) else kv).map (·.1) = (ds.map fun kv => if kv.1 = k then (kv.1, d) else kv).map (·.1)) ∧
    RepAll g F β H ((ks.map fun kv => if kv.1 = k then (kv.1, v) else kv).map (·.2)) ((ds.map fun kv => if kv.1 = k then (kv.1, d) else kv).map (·.2))
  | [], [], _, _ => ⟨rfl, .nil⟩
  | [], _ :: _, h, _ => by simp at h
  | _ :: _, [], h, _ => by simp at h
  | p :: ks, q :: ds, h, rr => by
    simp only [List.map_cons, List.cons.injEq] at h rr ⊢
    cases rr with
    | cons a b =>
      have ih := repl_ok (k := k) r h.2 b
      have e1 : (if p.1 = k then (p.1, v) else p).1 = p.1 := by split <;> rfl
      have e2 : (if q.1 = k then (q.1, d) else q).1 = q.1 := by split <;> rfl
      refine ⟨⟨by rw [e1, e2]; exact h.1, ih.1⟩, .cons ?_ ih.2⟩
      by_cases e : q.1 = k
      · rw [if_pos e, if_pos (h.1.trans e)]; exact r
      · rw [if_neg e, if_neg (fun z => e (h.1.symm.trans z))]; exact a
theorem putD_ok {κ : Type} [DecidableEq κ] {k : κ} {v : V} {d : D} (r : Rep g F β H v d) {ks : List (κ × V)} {ds : List (κ × D)} (h : ks.map (·.1) = ds.map (·.1)) (rr : RepAll g F β H (ks.map (·.2)) (ds.map (·.2))) :
    (putK ks k v).map (·.1) = (putD ds k d).map (·.1) ∧ RepAll g F β H ((putK ks k v).map (·.2)) ((putD ds k d).map (·.2)) := by
  unfold putK putD
  rw [fndK_any h]
  by_cases e : (fndK ds k).isSome = true
  · rw [if_pos e, if_pos e]; exact repl_ok r h rr
  · rw [if_neg e, if_neg e]
    refine ⟨by simp [h], ?_⟩
    simp only [List.map_append, List.map_cons, List.map_nil]
    exact rr.append (.cons r .nil)
end
def evStore (i : Nat) (fi f : SemE) : SemS := fun c _ vs bx => (f c vs bx).out vs fun r => match vs[i]? with
  | some (.own (.lst ds)) => if i ∈ r.ls then .stuck else (fi c vs r.bx).out vs fun ri => match ri.d with
    | .int k => match ixN ds.length k with
      | some j => .next ((freeze r.ls vs).set i (.own (.lst (ds.set j r.d)))) ri.bx
      | none => .stuck
    | _ => .stuck
  | some (.own (.dK ks)) => if i ∈ r.ls then .stuck else (fi c vs r.bx).out vs fun ri => match toKey ri.d with
    | some k => if ks.length < lim then .next ((freeze r.ls vs).set i (.own (.dK (putD ks k r.d)))) ri.bx else .stuck
    | none => .stuck
  | some (.val (.box k)) => (fi c vs r.bx).out vs fun ri => match r.d, ri.d, ri.bx[k]? with
    | .int n, .int j, some ns => match ixN ns.length j with
      | some q => .next vs (ri.bx.set k (ns.set q n))
      | none => .stuck
    | _, _, _ => .stuck
  | _ => .stuck
/-- .. where the key is a written tuple -/
def evStoreT (i : Nat) (fa : SemA) (f : SemE) : SemS := fun c _ vs bx => (f c vs bx).out vs fun r => match vs[i]? with
  | some (.own (.dT ks)) => if i ∈ r.ls then .stuck else (fa c vs r.bx).out vs fun ri => match toKeys ri.ds with
    | some k => if ks.length < lim then (if ri.ds.length ≤ lim then .next ((freeze r.ls vs).set i (.own (.dT (putD ks k r.d)))) ri.bx else .stuck) else .stuck
    | none => .stuck
  | _ => .stuck
section
variable {g : Gx} {W : WX} {fns : Fns} {fuel : Nat} {X : Cx}
theorem ixN_lt {n : Nat} {k : Int} {j : Nat} (h : ixN n k = some j) : j < n := (ixN_seq h).2.1
theorem tEvS_store {i : Nat} {fi f : SemE} {D : Ends} {σ : L2.St} {H : Hp} (h : tEvS g W fns fuel (evStore i fi f) D σ H) : tAsg (tEvE g W fns f) (gSub (tVar i) (tEvE g W fns fi) rSetA) D σ H := by
  obtain ⟨b, F, β, vs, bx, R, h⟩ := h
  unfold evStore at h
  refine out_step R h fun r v F1 β1 H1 e s x q => ?_
  obtain ⟨F2, s2, up, rp⟩ := x.shr R s
  have R2 := R.stp s2
  split at q
  · rename_i ds e1
    obtain ⟨p, es, nf, nb, m, us, ep, rr⟩ := R2.own e1
    refine ⟨.ref p, es, ?_⟩
    by_cases hi : i ∈ r.ls
    · rw [if_pos hi] at q; exact q.elim
    · rw [if_neg hi] at q
      refine out_step R2 q fun ri vi F3 β3 H3 ei s3 xi q => ?_
      have ci := xi.con R2 s3
      have R3 := (R2.stp s3).freeze r.ls
      have rp3 := Rep.stpL R2 s3 rp
      have e2 := freeze_own e1 hi
      obtain ⟨p', es', nf', nb', m', us', ep', rr'⟩ := R3.own e2
      rw [es] at es'; cases es'
      cases ed : ri.d with
      | int k =>
        rw [ed] at q ci
        cases ek : ixN ds.length k with
        | none => simp only [ek] at q; exact q.elim
        | some j =>
          simp only [ek] at q
          have kp : Keeps g.K (fun p => F3 p ∨ Lent vs σ r.ls p) β3 H3 (fun p => F3 p ∨ Lent vs σ r.ls p) β3 (upd H3 p (.lst (us'.set j v))) := keeps_upd nf' ep' trivial
          refine .inl ⟨p, us', k, j, rfl, ci.int, ep', by rw [rr'.length]; exact ek, ?_⟩
          exact q σ _ β3 _ (R3.mutate e2 es ⟨_, upd_same, (RepAll.keep kp rr').set j (rp3.keep kp)⟩)
      | _ => rw [ed] at q; exact q.elim
  · rename_i ks e1
    obtain ⟨p, es, nf, nb, m, us, ep, ek, rr⟩ := R2.own e1
    refine ⟨.ref p, es, ?_⟩
    by_cases hi : i ∈ r.ls
    · rw [if_pos hi] at q; exact q.elim
    · rw [if_neg hi] at q
      refine out_step R2 q fun ri vi F3 β3 H3 ei s3 xi q => ?_
      have ci := xi.con R2 s3
      have R3 := (R2.stp s3).freeze r.ls
      have rp3 := Rep.stpL R2 s3 rp
      have e2 := freeze_own e1 hi
      obtain ⟨p', es', nf', nb', m', us', ep', ek', rr'⟩ := R3.own e2
      rw [es] at es'; cases es'
      cases et : toKey ri.d with
      | none => simp only [et] at q; exact q.elim
      | some k =>
        simp only [et] at q
        by_cases hl : ks.length < lim
        · rw [if_pos hl] at q
          have kp : Keeps g.K (fun p => F3 p ∨ Lent vs σ r.ls p) β3 H3 (fun p => F3 p ∨ Lent vs σ r.ls p) β3 (upd H3 p (.dK (putK us' k v))) := keeps_upd nf' ep' trivial
          have hlen : us'.length = ks.length := by have := congrArg List.length ek'; simpa using this
          refine .inr ⟨p, _, rfl, .inl ⟨us', k, ep', ci.key et, by rw [hlen, lim_eq]; exact hl, rfl⟩, ?_⟩
          have pk := putD_ok (k := k) (rp3.keep kp) ek' (RepAll.keep kp rr')
          exact q σ _ β3 _ (R3.mutate e2 es ⟨_, upd_same, pk.1, pk.2⟩)
        · rw [if_neg hl] at q; exact q.elim
  · rename_i k e1
    obtain ⟨v0, es, r0⟩ := R2.slot i _ e1
    cases r0 with
    | box eb =>
      rename_i p
      refine ⟨.ref p, es, ?_⟩
      refine out_step R2 q fun ri vi F3 β3 H3 ei s3 xi q => ?_
      have ci := xi.con R2 s3
      have R3 := R2.stp s3
      have rp3 := Rep.stpL R2 s3 rp
      have eb3 := s3.pre k p eb
      obtain ⟨na, ns, q1, q2⟩ := R3.box.at_ k p eb3
      cases e1' : r.d with
      | int n =>
        cases e2' : ri.d with
        | int j =>
          rw [e1'] at rp3
          rw [e2'] at ci
          rw [e1', e2', q1] at q
          simp only at q
          cases ej : ixN ns.length j with
          | none => simp only [ej] at q; exact q.elim
          | some z =>
            simp only [ej] at q
            cases rp3
            refine .inl ⟨p, ns.map V.int, j, z, rfl, ci.int, q2, by simpa using ej, ?_⟩
            have e3 : (ns.map V.int).set z (.int n) = (ns.set z n).map V.int := by rw [List.map_set]
            rw [e3]
            exact q σ _ β3 _ (R3.boxSet eb3)
        | _ => rw [e1', e2'] at q; exact q.elim
      | _ => rw [e1'] at q; exact q.elim
  · exact q.elim
theorem tEvS_storeT {i : Nat} {fa : SemA} {f : SemE} {D : Ends} {σ : L2.St} {H : Hp} (h : tEvS g W fns fuel (evStoreT i fa f) D σ H) : tAsg (tEvE g W fns f) (gSub (tVar i) (tTup (tEvAS g W fns fa)) rSetA) D σ H := by
  obtain ⟨b, F, β, vs, bx, R, h⟩ := h
  unfold evStoreT at h
  refine out_step R h fun r v F1 β1 H1 e s x q => ?_
  obtain ⟨F2, s2, up, rp⟩ := x.shr R s
  have R2 := R.stp s2
  split at q
  · rename_i ks e1
    obtain ⟨p, es, nf, nb, m, us, ep, ek, rr⟩ := R2.own e1
    refine ⟨.ref p, es, ?_⟩
    by_cases hi : i ∈ r.ls
    · rw [if_pos hi] at q; exact q.elim
    · rw [if_neg hi] at q
      refine ⟨b, F2, β1, vs, r.bx, R2, ?_⟩
      cases e3 : fa fns vs r.bx with
      | stuck => rw [e3] at q; exact q
      | exc x bx1 =>
        rw [e3] at q
        exact fun cls d F' β' H' s xr => q cls d σ F' β' H' (R2.stp s) xr
      | ok ri =>
        rw [e3] at q
        simp only [Res.out] at q
        intro xs F3 β3 H3 s3 ra
        cases et : toKeys ri.ds with
        | none => simp only [et] at q; exact q.elim
        | some k =>
          simp only [et] at q
          by_cases hl : ks.length < lim
          · rw [if_pos hl] at q
            by_cases hl2 : ri.ds.length ≤ lim
            · rw [if_pos hl2] at q
              refine ⟨by rw [ra.length, lim_eq]; exact hl2, fun c hc => ?_⟩
              have exs := toKeys_ok et ra
              have R3 := R2.stp s3
              have s4 : Stp g.toGh F3 β3 H3 F3 β3 (upd H3 c (.tup xs)) ri.bx := Stp.new s3.box hc
              have R4 := (R3.stp s4).freeze r.ls
              have rp4 := Rep.stpL R3 s4 (Rep.stpL R2 s3 rp)
              have e2 := freeze_own e1 hi
              obtain ⟨p', es', nf', nb', m', us', ep', ek', rr'⟩ := R4.own e2
              rw [es] at es'; cases es'
              have kp : Keeps g.K (fun p => F3 p ∨ Lent vs σ r.ls p) β3 (upd H3 c (.tup xs)) (fun p => F3 p ∨ Lent vs σ r.ls p) β3 (upd (upd H3 c (.tup xs)) p (.dT (putK us' k v))) := keeps_upd nf' ep' trivial
              have hlen : us'.length = ks.length := by have := congrArg List.length ek'; simpa using this
              refine .inr ⟨p, _, rfl, .inr ⟨us', k, c, ep', rfl, by rw [upd_same, exs], by rw [hlen, lim_eq]; exact hl, rfl⟩, ?_⟩
              have pk := putD_ok (k := k) (rp4.keep kp) ek' (RepAll.keep kp rr')
              exact q σ _ β3 _ (R4.mutate e2 es ⟨_, upd_same, pk.1, pk.2⟩)
            · rw [if_neg hl2] at q; exact q.elim
          · rw [if_neg hl] at q; exact q.elim
  · exact q.elim
/-- an empty dict whose keys are ints and texts, or tuples -/
def evDnewK : SemE := fun _ _ bx => .ok ⟨.dK [], [], .fr, bx⟩
def evDnewT : SemE := fun _ _ bx => .ok ⟨.dT [], [], .fr, bx⟩
theorem box_fresh {F : Addr → Prop} {β : List Addr} {H : Hp} {bx : Bx} (b : BoxR g.toGh F β H bx) {p : Addr} (h : H p = none) : ¬ F p ∧ ¬ p ∈ β := by
  refine ⟨fun f => ?_, fun m => ?_⟩
  · obtain ⟨o, e⟩ := b.th p f; rw [h] at e; cases e
  · obtain ⟨_, ns, e⟩ := b.mem m; rw [h] at e; cases e
theorem evDnewK_imp {σ : L2.St} {H : Hp} {Q : VK} (h : tEvE g W fns evDnewK σ H Q) : tDNewK σ H Q := by
  obtain ⟨b, F, β, vs, bx, R, h⟩ := h
  intro p hp
  obtain ⟨nf, nb⟩ := box_fresh R.box hp
  exact h (.ref p) F β _ (Stp.new R.box hp) ⟨p, rfl, nf, hp, nb, [], upd_same, rfl, .nil⟩
theorem evDnewT_imp {σ : L2.St} {H : Hp} {Q : VK} (h : tEvE g W fns evDnewT σ H Q) : tDNewT σ H Q := by
  obtain ⟨b, F, β, vs, bx, R, h⟩ := h
  intro p hp
  obtain ⟨nf, nb⟩ := box_fresh R.box hp
  exact h (.ref p) F β _ (Stp.new R.box hp) ⟨p, rfl, nf, hp, nb, [], upd_same, rfl, .nil⟩

/-! ### what was on loan is given back -/
theorem Stp.unlend {F F' L : Addr → Prop} {β β' : List Addr} {H H' : Hp} {bx' : Bx} (s : Stp g.toGh (fun p => F p ∨ L p) β H F' β' H' bx') (hL : ∀ p, L p → ¬ F p) : Stp g.toGh F β H (fun p => F' p ∧ ¬ L p) β' H' bx' := by
  refine ⟨⟨s.ext.hp, fun p f => ⟨s.ext.fm p (.inl f), fun z => hL p z f⟩, fun p ⟨f, n⟩ => ?_⟩, s.pre, s.nw, ⟨s.box.len, s.box.nd, fun k a e => ?_, fun p f => s.box.th p f.1, s.box.tab⟩⟩
  · rcases s.ext.fn p f with (z | z) | z
    · exact .inl z
    · exact absurd z n
    · exact .inr z
  · obtain ⟨n, ns, e1, e2⟩ := s.box.at_ k a e
    exact ⟨fun z => n z.1, ns, e1, e2⟩
theorem split_lent {F' L : Addr → Prop} : ∀ p, F' p → (F' p ∧ ¬ L p) ∨ L p := fun p f => by
  by_cases h : L p
  · exact .inr h
  · exact .inl ⟨f, h⟩

/-! ### calls of the text's defs -/
def FrR (g : Gh) (H : Hp) (F' : Addr → Prop) (β' : List Addr) (H' : Hp) (v : V) (q : FR) : Prop :=
  if q.fr = true then ∃ p, v = .ref p ∧ ¬ F' p ∧ H p = none ∧ ¬ p ∈ β' ∧ OwnR g F' β' H' p q.d else Rep g F' β' H' v q.d
/-- a def's promise: what the value function of its number says -/
def spEv (g : Gx) (fns : Fns) (i n : Nat) : Sp := fun vs H Q E => vs.length = n ∧ ∃ F β bx ds, RepAll g.toGh F β H vs ds ∧ BoxR g.toGh F β H bx ∧ match fns i ds bx with
  | .ok q => ∀ v F' β' H', Stp g.toGh F β H F' β' H' q.bx → FrR g.toGh H F' β' H' v q → Q v H'
  | .exc x bx' => ∀ cls d F' β' H', Stp g.toGh F β H F' β' H' bx' → XR g x cls d H' → E cls d H'
  | .stuck => False
def evCall (i n : Nat) (fa : SemA) : SemE := fun c vs bx => (fa c vs bx).bind fun r => if r.ds.length = n then (c i r.ds r.bx).bind fun q => .ok ⟨q.d, nrm q.d q.fr r.l, if q.fr then .fr else .sh, q.bx⟩ else .stuck
theorem evCall_imp {i n : Nat} {fa : SemA} {σ : L2.St} {H : Hp} {Q : VK} (h : tEvE g W fns (evCall i n fa) σ H Q) : tCallS (spEv g fns i n) (WE W) (tEvAS g W fns fa) σ H Q := by
  obtain ⟨b, F, β, vs, bx, R, h⟩ := h
  unfold evCall at h
  refine ⟨b, F, β, vs, bx, R, ?_⟩
  cases e : fa fns vs bx with
  | stuck => rw [e] at h; exact h
  | exc x bx1 => rw [e] at h; exact h
  | ok r =>
    rw [e, bind_ok] at h
    intro xs F1 β1 H1 s1 ra
    by_cases hn : r.ds.length = n
    · rw [if_pos hn] at h
      have R1 := R.stp s1
      refine ⟨by rw [ra.length]; exact hn, _, β1, r.bx, r.ds, ra, Lent.box R1 r.l, ?_⟩
      have hL : ∀ p, Lent vs σ r.l p → ¬ F1 p := fun p z => (R1.lent z).1
      cases ec : fns i r.ds r.bx with
      | stuck => rw [ec] at h; exact h
      | exc x bx2 =>
        rw [ec] at h
        exact fun cls d F2 β2 H2 s2 xr => h cls d _ β2 H2 (s1.trans (s2.unlend hL)) xr
      | ok q =>
        rw [ec, bind_ok] at h
        intro v F2 β2 H2 s2 fr
        have s3 := s2.unlend hL
        refine h v _ β2 H2 (s1.trans s3) ?_
        unfold FrR at fr
        unfold ResR
        cases hq : q.fr with
        | true =>
          rw [hq, if_pos rfl] at fr
          simp only [if_true]
          obtain ⟨p, ev, nf, hp, nb, o⟩ := fr
          refine ⟨p, ev, fun z => nf z.1, ?_, nb, (o.up split_lent).nrm⟩
          cases z : H p with
          | none => rfl
          | some u =>
            by_cases m : p ∈ β
            · obtain ⟨k, hk⟩ := List.mem_iff_getElem?.mp m
              exact absurd (List.mem_of_getElem? (s2.pre k p (s1.pre k p hk))) nb
            · obtain ⟨u', y⟩ := s1.ext.live z m
              rw [y] at hp; cases hp
        | false =>
          rw [hq, if_neg Bool.false_ne_true] at fr
          simp only [Bool.false_eq_true, if_false]
          exact (fr.up split_lent).nrm
    · rw [if_neg hn] at h; exact h.elim
end
end Pv

/-! Pv.J: list comprehensions. -/
namespace Pv
open L2 PySem PyProof.Rows PySem.Spec

def wipeV : List Nat → Vs → Vs
  | [], vs => vs
  | i :: l, vs => (wipeV l vs).set i .none
theorem wipeV_length : ∀ (l : List Nat) (vs : Vs), (wipeV l vs).length = vs.length
  | [], _ => rfl
  | i :: l, vs => by unfold wipeV; rw [List.length_set, wipeV_length l vs]
theorem wipeV_get : ∀ (l : List Nat) (vs : Vs) (j : Nat), (wipeV l vs)[j]? = if j ∈ l then (vs[j]?).map (fun _ => Slot.none) else vs[j]?
  | [], vs, j => by simp [wipeV]
  | i :: l, vs, j => by
    unfold wipeV
    by_cases h : i = j
    · subst h
      rw [if_pos List.mem_cons_self]
      by_cases hl : i < vs.length
      · rw [List.getElem?_set_self (by rw [wipeV_length]; exact hl), List.getElem?_eq_getElem hl]; rfl
      · rw [List.getElem?_eq_none (by rw [List.length_set, wipeV_length]; omega), List.getElem?_eq_none (by omega)]; rfl
    · rw [List.getElem?_set_ne h, wipeV_get l vs j]
      by_cases hj : j ∈ l
      · rw [if_pos hj, if_pos (List.mem_cons_of_mem _ hj)]
      · rw [if_neg hj, if_neg]
        intro z
        rcases List.mem_cons.mp z with z | z
        · exact h z.symm
        · exact hj z
theorem wipe_get : ∀ (l : List Nat) (σ : L2.St) (j : Nat), (wipe σ l)[j]? = if j ∈ l then (σ[j]?).map (fun _ => none) else σ[j]?
  | [], σ, j => by simp [wipe]
  | i :: l, σ, j => by
    unfold wipe
    by_cases h : i = j
    · subst h
      rw [if_pos List.mem_cons_self]
      by_cases hl : i < σ.length
      · rw [List.getElem?_set_self (by rw [wipe_length]; exact hl), List.getElem?_eq_getElem hl]; rfl
      · rw [List.getElem?_eq_none (by rw [List.length_set, wipe_length]; omega), List.getElem?_eq_none (by omega)]; rfl
    · rw [List.getElem?_set_ne h, wipe_get l σ j]
      by_cases hj : j ∈ l
      · rw [if_pos hj, if_pos (List.mem_cons_of_mem _ hj)]
      · rw [if_neg hj, if_neg]
        intro z
        rcases List.mem_cons.mp z with z | z
        · exact h z.symm
        · exact hj z
theorem wipe_same {σ σ' : L2.St} {l ix : List Nat} (hx : ∀ j ∈ ix, j ∈ l) (hl : σ'.length = (wipe σ l).length) (h : ∀ j, j ∉ ix → σ'[j]? = (wipe σ l)[j]?) : wipe σ' l = wipe σ l := by
  apply List.ext_getElem?
  intro j
  rw [wipe_get, wipe_get]
  rw [wipe_length] at hl
  by_cases hj : j ∈ l
  · rw [if_pos hj, if_pos hj]
    by_cases hlt : j < σ.length
    · rw [List.getElem?_eq_getElem hlt, List.getElem?_eq_getElem (by omega)]; rfl
    · rw [List.getElem?_eq_none (by omega), List.getElem?_eq_none (by omega)]
  · rw [if_neg hj, if_neg hj, h j (fun z => hj (hx j z))]
    simp [wipe_get, hj]
section
variable {g : Gh} {b : Bse} {F F' F'' L M : Addr → Prop} {β β' β'' : List Addr} {H H' H'' : Hp} {bx bx' bx'' : Bx} {σ σ' : L2.St} {vs vs' : Vs} {p : Addr} {d : D} {v : V} {l : List Nat}
theorem RelS.wipe (R : RelS g b F β H σ vs bx) (l : List Nat) : RelS g b F β H (L2.wipe σ l) (wipeV l vs) bx := by
  have nw : ∀ (j : Nat) (d : D), (wipeV l vs)[j]? = some (.own d) → j ∉ l ∧ vs[j]? = some (.own d) := fun j d e => by
    rw [wipeV_get] at e
    split at e
    · cases e1 : vs[j]? with
      | none => rw [e1] at e; cases e
      | some s => rw [e1] at e; cases e
    · rename_i hj; exact ⟨hj, e⟩
  refine ⟨R.good, R.ext, R.pre, R.nw, R.box, by rw [wipeV_length, wipe_length]; exact R.len, fun j s e => ?_, fun j k dj dk p e1 e2 e3 e4 => ?_⟩
  · rw [wipeV_get] at e
    split at e
    · cases e1 : vs[j]? with
      | none => rw [e1] at e; cases e
      | some s0 => rw [e1] at e; cases e; trivial
    · rename_i hj
      have q := R.slot j s e
      cases s with
      | none => trivial
      | val d => obtain ⟨v, e2, r⟩ := q; exact ⟨v, by rw [wipe_get, if_neg hj]; exact e2, r⟩
      | own d => obtain ⟨a, e2, r⟩ := q; exact ⟨a, by rw [wipe_get, if_neg hj]; exact e2, r⟩
  · obtain ⟨n1, q1⟩ := nw j dj e1
    obtain ⟨n2, q2⟩ := nw k dk e2
    rw [wipe_get, if_neg n1] at e3
    rw [wipe_get, if_neg n2] at e4
    exact R.inj j k dj dk p q1 q2 e3 e4
mutual
theorem bind_own : ∀ (t : Tgt) (d : D) (vs vs1 : Vs), t.bind d vs = some vs1 → ∀ (j : Nat) (e : D), vs1[j]? = some (.own e) → vs[j]? = some (.own e)
  | .nm i, d, vs, vs1, h, j, e, hj => by
    simp only [Tgt.bind, Option.some.injEq] at h
    subst h
    by_cases hi : i = j
    · subst hi
      by_cases hl : i < vs.length
      · rw [List.getElem?_set_self hl] at hj; cases hj
      · rw [List.getElem?_eq_none (by simpa using hl)] at hj; cases hj
    · rw [List.getElem?_set_ne hi] at hj; exact hj
  | .tp ts, d, vs, vs1, h, j, e, hj => by
    cases d <;> first | (simp [Tgt.bind] at h; done) | skip
    simp only [Tgt.bind] at h
    exact binds_own ts _ vs vs1 h j e hj
theorem binds_own : ∀ (ts : List Tgt) (ds : List D) (vs vs1 : Vs), Tgt.binds ts ds vs = some vs1 → ∀ (j : Nat) (e : D), vs1[j]? = some (.own e) → vs[j]? = some (.own e)
  | [], [], vs, vs1, h, j, e, hj => by simp only [Tgt.binds, Option.some.injEq] at h; subst h; exact hj
  | [], _ :: _, vs, vs1, h, j, e, hj => by simp [Tgt.binds] at h
  | _ :: _, [], vs, vs1, h, j, e, hj => by simp [Tgt.binds] at h
  | t :: ts, d :: ds, vs, vs1, h, j, e, hj => by
    simp only [Tgt.binds] at h
    cases et : t.bind d vs with
    | none => rw [et] at h; cases h
    | some vs2 =>
      rw [et] at h
      exact bind_own t d vs vs2 et j e (binds_own ts ds vs2 vs1 h j e hj)
end
theorem Stp.updNew (s : Stp g F β H F' β' H' bx') {o o0 : HO} (h : H p = none) (h0 : H' p = some o0) (po : plainO o0) (nf : ¬ F' p) (nb : ¬ p ∈ β') : Stp g F β H F' β' (upd H' p o) bx' := by
  refine ⟨⟨fun a u e n => ?_, s.ext.fm, s.ext.fn⟩, s.pre, s.nw, ⟨s.box.len, s.box.nd, fun k a e => ?_, fun a f => ?_, tabs_upd s.box.tab h0 po⟩⟩
  · rw [upd_ne (ne_of_none e h)]; exact s.ext.hp a u e n
  · obtain ⟨n, ns, e1, e2⟩ := s.box.at_ k a e
    refine ⟨n, ns, e1, ?_⟩
    rw [upd_ne (fun z => nb (by rw [← z]; exact List.mem_of_getElem? e))]
    exact e2
  · obtain ⟨u, eu⟩ := s.box.th a f
    exact ⟨u, by rw [upd_ne (fun z => nf (by rw [← z]; exact f))]; exact eu⟩
theorem Stp.back (s : Stp g F β H F' β' H' bx') (h : H' p = none) : H p = none := by
  cases e : H p with
  | none => rfl
  | some u =>
    by_cases m : p ∈ β
    · obtain ⟨k, hk⟩ := List.mem_iff_getElem?.mp m
      obtain ⟨_, ns, e2⟩ := s.box.mem (List.mem_of_getElem? (s.pre k p hk))
      rw [h] at e2; cases e2
    · obtain ⟨u', z⟩ := s.ext.live e m
      rw [z] at h; cases h
end

def lcL (t : Tgt) (tst : Vs → Bx → Res (Bool × Bx)) (elt : Vs → Bx → Res ER) : List D → Vs → Bx → Res AR
  | [], _, bx => .ok ⟨[], [], bx⟩
  | d :: ds, vs, bx => match t.bind d vs with
    | none => .stuck
    | some vs1 => match tst vs1 bx with
      | .ok (true, bx1) => match elt vs1 bx1 with
        | .ok r => match lcL t tst elt ds vs r.bx with
          | .ok q => .ok ⟨r.d :: q.ds, r.ls ++ q.l, q.bx⟩
          | _ => .stuck
        | _ => .stuck
      | .ok (false, bx1) => lcL t tst elt ds vs bx1
      | _ => .stuck
def evLc (src : SemI) (t : Tgt) (tst : SemT) (elt : SemE) (own : List Nat) : SemE := fun c vs bx => (src c vs bx).bind fun r =>
  match lcL t (tst c) (elt c) r.ds (wipeV own (freeze r.l vs)) r.bx with
  | .ok q => fin (lstD q.ds) (r.l ++ q.l) q.bx
  | _ => .stuck
def evYes : SemT := fun _ _ bx => .ok (true, bx)
abbrev W0 : WX := fun _ _ _ _ => False
section
variable {g : Gx} {W : WX} {fns : Fns} {fuel : Nat} {X : Cx}
theorem evYes_imp {σ : L2.St} {H : Hp} {Q : Bool → Hp → Prop} (h : tEvT g W fns evYes σ H Q) : tYes σ H Q := by
  obtain ⟨b, F, β, vs, bx, R, h⟩ := h
  exact h F β H (.refl R.box)
theorem evLc_imp {src : SemI} {t : Tgt} {tst : SemT} {elt : SemE} {own : List Nat} (hown : ∀ j ∈ t.ix, j ∈ own) {σ : L2.St} {H : Hp} {Q : VK} (h : tEvE g W fns (evLc src t tst elt own) σ H Q) :
    tLc (tEvI g W fns src) (tEvG g t) (tEvT g W0 fns tst) (tEvE g W0 fns elt) own σ H Q := by
  obtain ⟨b, F, β, vs, bx, R, h⟩ := h
  unfold evLc at h
  refine ⟨b, F, β, vs, bx, R, ?_⟩
  cases e : src fns vs bx with
  | stuck => rw [e] at h; exact h
  | exc x bx1 => rw [e] at h; exact h
  | ok r =>
    rw [e, bind_ok] at h
    intro J F1 β1 H1 s it D hD
    have R1 := R.stp s
    cases eq : lcL t (tst fns) (elt fns) r.ds (wipeV own (freeze r.l vs)) r.bx with
    | stuck => rw [eq] at h; exact h.elim
    | exc x bx1 => rw [eq] at h; exact h.elim
    | ok q =>
      rw [eq] at h
      simp only at h
      by_cases hlen : q.ds.length ≤ lim
      · unfold lstD at h
        rw [if_pos hlen] at h
        -- the lents
        have LL : ∀ p, Lent vs σ (r.l ++ q.l) p → ¬ p ∈ β1 ∧ ¬ F1 p ∧ p ≠ D := fun p z => by
          obtain ⟨nf, nb, o, eo, _⟩ := R1.lent z
          exact ⟨nb, nf, fun z => by rw [z, hD] at eo; cases eo⟩
        obtain ⟨nfD, nbD⟩ := box_fresh s.box hD
        refine ⟨fun i m H => m = r.ds.length - i ∧ i ≤ r.ds.length ∧ ∃ F β bx us acc rest lr, Stp g.toGh F1 β1 H1 F β H bx ∧ H D = some (.lst us) ∧ ¬ F D ∧ ¬ D ∈ β ∧ RepAll g.toGh (fun p => F p ∨ Lent vs σ (r.l ++ q.l) p) β H us acc ∧
          lcL t (tst fns) (elt fns) (r.ds.drop i) (wipeV own (freeze r.l vs)) bx = .ok ⟨rest, lr, q.bx⟩ ∧ acc ++ rest = q.ds ∧ (∀ j ∈ lr, j ∈ q.l),
          ⟨r.ds.length, by simp, Nat.zero_le _, F1, β1, r.bx, [], [], q.ds, q.l, Stp.new s.box hD, upd_same, nfD, nbD, .nil, eq, rfl, fun _ h => h⟩, ?_⟩
        rintro i m H2 ⟨rfl, hi, F2, β2, bx2, us, acc, rest, lr, s2, eD, nf2, nb2, ra, el, ea, hl⟩
        have L2 : ∀ p, Lent vs σ (r.l ++ q.l) p → ¬ p ∈ β2 := fun p z => ((R1.stp s2).lent z).2.1
        have LLr : ∀ p, Lent vs σ r.l p → Lent vs σ (r.l ++ q.l) p := fun p z => z.up fun i m => List.mem_append_left _ m
        by_cases hlt : i < r.ds.length
        · have kp : Keeps g.K (fun p => F1 p ∨ Lent vs σ r.l p) β1 H1 (fun p => F2 p ∨ Lent vs σ r.l p) β2 H2 := s2.keepsL s.box fun p z => (LL p (LLr p z)).1
          obtain ⟨go, yl⟩ := it.go _ _ _ kp i _ (List.getElem?_eq_getElem hlt)
          rw [List.drop_eq_getElem_cons hlt] at el
          simp only [lcL] at el
          refine .inr ⟨go, fun H' => ∃ F β bx us acc rest lr, Stp g.toGh F1 β1 H1 F β H' bx ∧ H' D = some (.lst us) ∧ ¬ F D ∧ ¬ D ∈ β ∧ RepAll g.toGh (fun p => F p ∨ Lent vs σ (r.l ++ q.l) p) β H' us acc ∧
            lcL t (tst fns) (elt fns) (r.ds.drop (i + 1)) (wipeV own (freeze r.l vs)) bx = .ok ⟨rest, lr, q.bx⟩ ∧ acc ++ rest = q.ds ∧ (∀ j ∈ lr, j ∈ q.l), fun H' q => ⟨r.ds.length - (i + 1), by omega, rfl, hlt, q⟩, fun x H3 hy => ?_⟩
          obtain ⟨sm, rx⟩ := yl x H3 hy
          have s3 : Stp g.toGh F1 β1 H1 F2 β2 H3 bx2 := s2.trans (Stp.grow s2.box sm)
          have R3 := R1.stp s3
          have RB := (R3.freeze r.l).wipe own
          refine ⟨b, _, β2, _, bx2, _, RB, rx, ?_⟩
          cases et : t.bind r.ds[i] (wipeV own (freeze r.l vs)) with
          | none => rw [et] at el; cases el
          | some vs4 =>
            rw [et] at el
            simp only at el
            intro σ4 R4 l4 k4
            have hw : wipe σ4 own = wipe σ own := wipe_same hown l4 k4
            refine ⟨hw, ?_⟩
            -- what is lent within the block is lent around it
            have lent4 : ∀ (l : List Nat) p, Lent vs4 σ4 l p → Lent vs σ l p := fun l p ⟨j, hj, ⟨d, ej⟩, es⟩ => by
              have e1 := bind_own t _ _ _ et j d ej
              rw [wipeV_get] at e1
              split at e1
              · cases e2 : (freeze r.l vs)[j]? with
                | none => rw [e2] at e1; cases e1
                | some z => rw [e2] at e1; cases e1
              · rename_i hno
                have e3 : vs[j]? = some (.own d) := by
                  rw [freeze_get] at e1
                  split at e1
                  · cases e4 : vs[j]? with
                    | none => rw [e4] at e1; cases e1
                    | some s0 => rw [e4] at e1; cases s0 <;> cases e1
                  · exact e1
                rw [k4 j (fun z => hno (hown j z)), wipe_get, if_neg hno] at es
                exact ⟨j, hj, ⟨d, e3⟩, es⟩
            -- from the block's step back to the run's
            have D3 : H3 D = some (.lst us) := sm _ _ eD
            have nL : ∀ p, Lent vs σ r.l p → ¬ F2 p := fun p z => (R3.lent z).1
            have DL : ¬ Lent vs σ (r.l ++ q.l) D := fun z => (LL D z).2.2 rfl
            have nF4 : ¬ (F2 D ∨ Lent vs σ r.l D) := fun z => z.elim nf2 fun z => DL (LLr D z)
            have turn : ∀ {F5 : Addr → Prop} {β5 : List Addr} {H5 : Hp} {bx5 : Bx}, Stp g.toGh (fun p => F2 p ∨ Lent vs σ r.l p) β2 H3 F5 β5 H5 bx5 →
                Stp g.toGh F1 β1 H1 (fun p => F5 p ∧ ¬ Lent vs σ r.l p) β5 H5 bx5 ∧ H5 D = some (.lst us) ∧ ¬ F5 D ∧ ¬ D ∈ β5 ∧ RepAll g.toGh (fun p => (F5 p ∧ ¬ Lent vs σ r.l p) ∨ Lent vs σ (r.l ++ q.l) p) β5 H5 us acc := fun {F5 β5 H5 bx5} s5 => by
              have s6 := s5.unlend nL
              refine ⟨s3.trans s6, s5.ext.at_ D3 nb2 (fun z => z), s5.notF D3 nb2 nF4, s5.notB D3 nb2, ?_⟩
              have k1 : Keeps g.K (fun p => F2 p ∨ Lent vs σ (r.l ++ q.l) p) β2 H2 (fun p => F2 p ∨ Lent vs σ (r.l ++ q.l) p) β2 H3 := (Stp.grow s2.box sm).keepsL s2.box L2
              have k2 : Keeps g.K (fun p => F2 p ∨ Lent vs σ (r.l ++ q.l) p) β2 H3 (fun p => (F5 p ∧ ¬ Lent vs σ r.l p) ∨ Lent vs σ (r.l ++ q.l) p) β5 H5 := s6.keepsL s3.box L2
              exact RepAll.keep k2 (RepAll.keep k1 ra)
            refine evT_step R4 (fun k bx5 F5 β5 H5 ek s5 => ?_) (fun x bx5 ek => ?_) fun ek => ?_
            · rw [ek] at el
              obtain ⟨t1, t2, t3, t4, t5⟩ := turn s5
              cases k with
              | false =>
                rw [if_neg Bool.false_ne_true]
                exact ⟨_, β5, bx5, us, acc, rest, lr, t1, t2, fun z => t3 z.1, t4, t5, el, ea, hl⟩
              | true =>
                rw [if_pos rfl]
                simp only at el
                refine evE_step (R4.stp s5) (fun re ve F6 β6 H6 ee s6 xe => ?_) (fun x bx6 ee => ?_) fun ee => ?_
                · rw [ee] at el
                  simp only at el
                  cases eq2 : lcL t (tst fns) (elt fns) (r.ds.drop (i + 1)) (wipeV own (freeze r.l vs)) re.bx with
                  | stuck => rw [eq2] at el; cases el
                  | exc x bx6 => rw [eq2] at el; cases el
                  | ok q2 =>
                    rw [eq2] at el
                    simp only [Res.ok.injEq, AR.mk.injEq] at el
                    obtain ⟨er, el2, eb⟩ := el
                    obtain ⟨F7, s7, up7, rv⟩ := xe.shr (R4.stp s5) s6
                    obtain ⟨u1, u2, u3, u4, u5⟩ := turn (s5.trans s7)
                    have rv2 : Rep g.toGh (fun p => (F7 p ∧ ¬ Lent vs σ r.l p) ∨ Lent vs σ (r.l ++ q.l) p) β6 H6 ve re.d := rv.up fun p z => by
                      rcases z with z | z
                      · rcases split_lent (L := Lent vs σ r.l) p z with y | y
                        · exact .inl y
                        · exact .inr (LLr p y)
                      · exact .inr ((lent4 _ p z).up fun j hj => List.mem_append_right _ (hl j (by rw [← el2]; exact List.mem_append_left _ hj)))
                    have nn : ¬ ((F7 D ∧ ¬ Lent vs σ r.l D) ∨ Lent vs σ (r.l ++ q.l) D) := fun z => z.elim (fun z => u3 z.1) DL
                    have k8 : Keeps g.K (fun p => (F7 p ∧ ¬ Lent vs σ r.l p) ∨ Lent vs σ (r.l ++ q.l) p) β6 H6 (fun p => (F7 p ∧ ¬ Lent vs σ r.l p) ∨ Lent vs σ (r.l ++ q.l) p) β6 (upd H6 D (.lst (us ++ [ve]))) := keeps_upd nn u2 trivial
                    refine ⟨us, u2, ?_, _, β6, re.bx, us ++ [ve], acc ++ [re.d], q2.ds, q2.l, u1.updNew hD u2 trivial (fun z => u3 z.1) u4, upd_same, fun z => u3 z.1, u4, (RepAll.keep k8 u5).append (.cons (rv2.keep k8) .nil), ?_, ?_, fun j hj => hl j (by rw [← el2]; exact List.mem_append_right _ hj)⟩
                    · rw [u5.length, lim_eq]
                      have := congrArg List.length ea
                      rw [← er] at this
                      simp only [List.length_append, List.length_cons] at this
                      have hlen' := hlen
                      omega
                    · rw [eq2, ← eb]
                    · rw [← ea, ← er]; simp
                · rw [ee] at el; cases el
                · rw [ee] at el; cases el
            · rw [ek] at el; cases el
            · rw [ek] at el; cases el
        · have ei : i = r.ds.length := by omega
          subst ei
          rw [List.drop_length] at el
          simp only [lcL, Res.ok.injEq, AR.mk.injEq] at el
          obtain ⟨er, _, eb⟩ := el
          subst er
          rw [List.append_nil] at ea
          have kp : Keeps g.K (fun p => F1 p ∨ Lent vs σ r.l p) β1 H1 (fun p => F2 p ∨ Lent vs σ r.l p) β2 H2 := s2.keepsL s.box fun p z => (LL p (LLr p z)).1
          refine .inl ⟨it.stop _ _ _ kp, ?_⟩
          have ow : OwnR g.toGh (fun p => F2 p ∨ Lent vs σ (r.l ++ q.l) p) β2 H2 D (.lst q.ds) := ⟨us, eD, by rw [← ea]; exact ra⟩
          refine h (.ref D) F2 β2 H2 ?_ ⟨D, rfl, nf2, s.back hD, nb2, ow.nrm⟩
          show Stp g.toGh F β H F2 β2 H2 q.bx
          rw [← eb]
          exact s.trans s2
      · unfold lstD at h
        rw [if_neg hlen] at h
        exact h.elim
end
end Pv

/-! Pv.K: sources, parallel stores, slices, isinstance. -/
namespace Pv
open L2 PySem PyProof.Rows PySem.Spec

/-- a list or a tuple, walked -/
theorem pi_seq {X : Cx} {tg l : Expr} {tl : TE} (hl : PE X l tl) : PI X tg l (fun σ H R => tl σ H fun x H1 => ∃ a, x = .ref a ∧ (((∃ xs, SqL X.K H1 a xs) ∧ R (Itl X.K a) H1) ∨ ((∃ xs, SqT X.K H1 a xs) ∧ R (Itt X.K a) H1))) := by
  refine ⟨fun pins s σ H R I h => ?_⟩
  refine thn (hl.run pins s σ H _ I h) fun v s1 ⟨x, H1, I1, r1, q1⟩ => ?_
  obtain ⟨a, e, q⟩ := q1
  subst e
  cases r1
  have fp : ∀ b ∈ [s1.heap.objs.size], FpOk X pins H1 b := fun b hb => by
    have e : b = s1.heap.objs.size := by simpa using hb
    subst e
    exact I1.fpOk (Nat.le_refl _) (I1.hok.fresh (Nat.le_refl _))
  rcases q with ⟨⟨xs, hq⟩, q⟩ | ⟨⟨xs, hq⟩, q⟩
  · obtain ⟨its, rv, p, hz⟩ := I1.list hq
    refine wpAny_pyIter_list p.isList ?_
    exact ⟨s1.heap.objs.size, [s1.heap.objs.size], _, _, H1, rfl, I1.kept (t' := s1.toks) fun b o e => Heap.get?_push_of_some _ e, turn_list a _, ⟨_, Heap.get?_push_size _ rfl, rfl, rfl⟩, fp, q⟩
  · obtain ⟨its, rv, p, hz⟩ := I1.tuple hq
    refine wpAny_pyIter_tuple (show s1.heap.IsTuple a its.toArray from p) ?_
    exact ⟨s1.heap.objs.size, [s1.heap.objs.size], _, _, H1, rfl, I1.kept (t' := s1.toks) fun b o e => Heap.get?_push_of_some _ e, turn_tuple a _, ⟨_, Heap.get?_push_size _ rfl, rfl, rfl⟩, fp, q⟩
def evIt (f : SemE) : SemI := fun c vs bx => (f c vs bx).bind fun r => match r.d with
  | .lst ds => .ok ⟨ds, r.ls, r.bx⟩
  | .tup ds => .ok ⟨ds, r.ls, r.bx⟩
  | _ => .stuck
section
variable {g : Gx} {W : WX} {fns : Fns} {fuel : Nat} {X : Cx}
theorem ItR.list {G : Gh} {F : Addr → Prop} {β : List Addr} {H : Hp} {a : Addr} {us : List V} {ds : List D} (sl : H a = some (.lst us)) (f : F a) (rr : RepAll G F β H us ds) : ItR G F β H (Itl G.K a) ds := by
  refine ⟨fun F' β' H' k i d hi => ?_, fun F' β' H' k => ?_⟩
  · have sl' := k.d a (.lst us) f (fun z => z) sl
    obtain ⟨v, ev, rv⟩ := (RepAll.keep k rr).get hi
    refine ⟨⟨us, v, .of sl', ev⟩, fun y H'' hy => ?_⟩
    obtain ⟨e1, hy⟩ := hy
    subst e1
    have := hy us (.of sl')
    rw [ev] at this
    cases this
    exact ⟨same_refl, rv⟩
  · exact ⟨us, .of (k.d a (.lst us) f (fun z => z) sl), by rw [rr.length]; exact Nat.le_refl _⟩
theorem ItR.tuple {G : Gh} {F : Addr → Prop} {β : List Addr} {H : Hp} {a : Addr} {us : List V} {ds : List D} (sl : SqT G.K H a us) (rr : RepAll G F β H us ds) : ItR G F β H (Itt G.K a) ds := by
  refine ⟨fun F' β' H' k i d hi => ?_, fun F' β' H' k => ?_⟩
  · have sl' := k.t a _ sl
    obtain ⟨v, ev, rv⟩ := (RepAll.keep k rr).get hi
    refine ⟨⟨us, v, sl', ev⟩, fun y H'' hy => ?_⟩
    obtain ⟨e1, hy⟩ := hy
    subst e1
    have := hy us sl'
    rw [ev] at this
    cases this
    exact ⟨same_refl, rv⟩
  · exact ⟨us, k.t a _ sl, by rw [rr.length]; exact Nat.le_refl _⟩
theorem evIt_imp (hK : X.K = g.K) {f : SemE} {σ : L2.St} {H : Hp} {R : It → Hp → Prop} (h : tEvI g W fns (evIt f) σ H R) :
    tEvE g W fns f σ H fun x H1 => ∃ a, x = .ref a ∧ (((∃ xs, SqL X.K H1 a xs) ∧ R (Itl X.K a) H1) ∨ ((∃ xs, SqT X.K H1 a xs) ∧ R (Itt X.K a) H1)) := by
  obtain ⟨b, F, β, vs, bx, RS, h⟩ := h
  unfold evIt at h
  refine evE_step RS (fun r v F1 β1 H1 e s x => ?_) (fun x bx1 e => ?_) fun e => ?_
  · rw [e, bind_ok] at h
    obtain ⟨F2, s2, up, rp⟩ := x.shr RS s
    rw [hK]
    cases ed : r.d with
    | lst ds =>
      rw [ed] at h rp
      cases rp with
      | lst sl f rr => exact ⟨_, rfl, .inl ⟨⟨_, .of sl⟩, h _ F2 β1 H1 s2 (ItR.list sl f rr)⟩⟩
    | tup ds =>
      rw [ed] at h rp
      cases rp with
      | tup sl rr => exact ⟨_, rfl, .inr ⟨⟨_, sl⟩, h _ F2 β1 H1 s2 (ItR.tuple sl rr)⟩⟩
    | _ => rw [ed] at h; exact h.elim
  · rw [e] at h; exact h
  · rw [e] at h; exact h

/-! ### zip, enumerate -/
def zipD (xs ys : List D) : List D := List.zipWith (fun a b => .tup [a, b]) xs ys
def enumD : Nat → List D → List D
  | _, [] => []
  | n, d :: ds => .tup [.int n, d] :: enumD (n + 1) ds
theorem enumD_get : ∀ (ds : List D) (n i : Nat) (e : D), (enumD n ds)[i]? = some e → ∃ d, ds[i]? = some d ∧ e = .tup [.int ((n + i : Nat) : Int), d]
  | [], _, _, _, h => by simp [enumD] at h
  | d :: ds, n, 0, e, h => by simp [enumD] at h; exact ⟨d, rfl, by simp [← h]⟩
  | d :: ds, n, i + 1, e, h => by
    simp only [enumD, List.getElem?_cons_succ] at h ⊢
    obtain ⟨d', h1, h2⟩ := enumD_get ds (n + 1) i e h
    refine ⟨d', h1, ?_⟩
    rw [h2]
    have : n + 1 + i = n + (i + 1) := by omega
    rw [this]
theorem enumD_length : ∀ (ds : List D) (n : Nat), (enumD n ds).length = ds.length
  | [], _ => rfl
  | d :: ds, n => by simp [enumD, enumD_length ds]
def evZip (fa : SemA) : SemI := fun c vs bx => (fa c vs bx).bind fun r => match r.ds with
  | [.lst xs, .lst ys] => .ok ⟨zipD xs ys, r.l, r.bx⟩
  | [.tup xs, .tup ys] => .ok ⟨zipD xs ys, r.l, r.bx⟩
  | _ => .stuck
def evEnum (fa : SemA) : SemI := fun c vs bx => (fa c vs bx).bind fun r => match r.ds with
  | [.lst xs] => .ok ⟨enumD 0 xs, r.l, r.bx⟩
  | _ => .stuck
theorem tup_new {G : Gh} {F : Addr → Prop} {β : List Addr} {H : Hp} {T : Addr} {xs : List V} {ds : List D} (hT : H T = none) (r : RepAll G F β H xs ds) : Rep G F β (upd H T (.tup xs)) (.ref T) (.tup ds) := by
  have k : Keeps G.K F β H F β (upd H T (.tup xs)) := by
    refine ⟨fun _ f => f, fun a us s => ?_, fun a u f _ e => ?_, fun a ob u e => ?_, fun _ _ e => e⟩
    · rcases s with (s | ⟨ob, s⟩) | s
      · exact .inl (.inl (by rw [upd_ne (ne_of_none s hT)]; exact s))
      · exact .inl (.inr ⟨ob, by rw [upd_ne (ne_of_none s hT)]; exact s⟩)
      · exact .inr s
    · rw [upd_ne (ne_of_none e hT)]; exact e
    · rw [upd_ne (ne_of_none e hT)]; exact e
  exact .tup (.of upd_same) (RepAll.keep k r)
theorem zipD_get {xs ys : List D} {i : Nat} {d : D} (h : (zipD xs ys)[i]? = some d) : ∃ a b, xs[i]? = some a ∧ ys[i]? = some b ∧ d = .tup [a, b] := by
  unfold zipD at h
  rw [List.getElem?_zipWith] at h
  cases e1 : xs[i]? with
  | none => rw [e1] at h; simp at h
  | some a =>
    cases e2 : ys[i]? with
    | none => rw [e1, e2] at h; simp at h
    | some b => rw [e1, e2] at h; simp at h; exact ⟨a, b, rfl, rfl, h.symm⟩
theorem zipD_length (xs ys : List D) : (zipD xs ys).length = min xs.length ys.length := by unfold zipD; simp
theorem ItR.zipL {G : Gh} {F : Addr → Prop} {β : List Addr} {H : Hp} {a c : Addr} {us ws : List V} {xs ys : List D} (sa : H a = some (.lst us)) (fa : F a) (ra : RepAll G F β H us xs) (sc : H c = some (.lst ws)) (fc : F c) (rc : RepAll G F β H ws ys) :
    ItR G F β H (Itz G.K a c) (zipD xs ys) := by
  refine ⟨fun F' β' H' k i d hi => ?_, fun F' β' H' k => ?_⟩
  · obtain ⟨d1, d2, e1, e2, rfl⟩ := zipD_get hi
    obtain ⟨v1, ev1, rv1⟩ := (RepAll.keep k ra).get e1
    obtain ⟨v2, ev2, rv2⟩ := (RepAll.keep k rc).get e2
    have sa' := k.d a (.lst us) fa (fun z => z) sa
    have sc' := k.d c (.lst ws) fc (fun z => z) sc
    refine ⟨⟨us, ws, v1, v2, .of sa', .of sc', ev1, ev2⟩, fun y H'' hy => ?_⟩
    obtain ⟨T, x, z, rfl, hT, rfl, q1, q2⟩ := hy
    have := q1 us (.of sa'); rw [ev1] at this; cases this
    have := q2 ws (.of sc'); rw [ev2] at this; cases this
    exact ⟨same_new hT, tup_new hT (.cons rv1 (.cons rv2 .nil))⟩
  · refine ⟨us, ws, .of (k.d a (.lst us) fa (fun z => z) sa), .of (k.d c (.lst ws) fc (fun z => z) sc), ?_⟩
    rw [zipD_length, ra.length, rc.length]
    omega
theorem ItR.zipT {G : Gh} {F : Addr → Prop} {β : List Addr} {H : Hp} {a c : Addr} {us ws : List V} {xs ys : List D} (sa : SqT G.K H a us) (ra : RepAll G F β H us xs) (sc : SqT G.K H c ws) (rc : RepAll G F β H ws ys) :
    ItR G F β H (RZ.ItzT G.K a c) (zipD xs ys) := by
  refine ⟨fun F' β' H' k i d hi => ?_, fun F' β' H' k => ?_⟩
  · obtain ⟨d1, d2, e1, e2, rfl⟩ := zipD_get hi
    obtain ⟨v1, ev1, rv1⟩ := (RepAll.keep k ra).get e1
    obtain ⟨v2, ev2, rv2⟩ := (RepAll.keep k rc).get e2
    have sa' := k.t a _ sa
    have sc' := k.t c _ sc
    refine ⟨⟨us, ws, v1, v2, sa', sc', ev1, ev2⟩, fun y H'' hy => ?_⟩
    obtain ⟨T, x, z, rfl, hT, rfl, q1, q2⟩ := hy
    have := q1 us sa'; rw [ev1] at this; cases this
    have := q2 ws sc'; rw [ev2] at this; cases this
    exact ⟨same_new hT, tup_new hT (.cons rv1 (.cons rv2 .nil))⟩
  · refine ⟨us, ws, k.t a _ sa, k.t c _ sc, ?_⟩
    rw [zipD_length, ra.length, rc.length]
    omega
theorem ItR.enum {G : Gh} {F : Addr → Prop} {β : List Addr} {H : Hp} {a : Addr} {us : List V} {xs : List D} (sa : H a = some (.lst us)) (fa : F a) (ra : RepAll G F β H us xs) :
    ItR G F β H (Ite G.K a) (enumD 0 xs) := by
  refine ⟨fun F' β' H' k i d hi => ?_, fun F' β' H' k => ?_⟩
  · obtain ⟨d1, e1, rfl⟩ := enumD_get _ _ _ _ hi
    obtain ⟨v1, ev1, rv1⟩ := (RepAll.keep k ra).get e1
    have sa' := k.d a (.lst us) fa (fun z => z) sa
    refine ⟨⟨us, v1, .of sa', ev1⟩, fun y H'' hy => ?_⟩
    obtain ⟨T, x, rfl, hT, rfl, q1⟩ := hy
    have := q1 us (.of sa'); rw [ev1] at this; cases this
    refine ⟨same_new hT, ?_⟩
    rw [Nat.zero_add]
    exact tup_new hT (.cons (.int _) (.cons rv1 .nil))
  · refine ⟨us, .of (k.d a (.lst us) fa (fun z => z) sa), ?_⟩
    rw [enumD_length, ra.length]
    exact Nat.le_refl _
def AskI (g : Gx) (W : WX) (vs : Vs) (σ : L2.St) (F : Addr → Prop) (β : List Addr) (H : Hp) (R : It → Hp → Prop) (res : Res IR) : Prop := match res with
  | .ok r => ∀ J F' β' H', Stp g.toGh F β H F' β' H' r.bx → ItR g.toGh (fun p => F' p ∨ Lent vs σ r.l p) β' H' J r.ds → R J H'
  | .exc x bx' => ∀ cls d F' β' H', Stp g.toGh F β H F' β' H' bx' → XR g x cls d H' → W cls d σ H'
  | .stuck => False
theorem evZip_imp (hK : X.K = g.K) {fa : SemA} {σ : L2.St} {H : Hp} {R : It → Hp → Prop} (h : tEvI g W fns (evZip fa) σ H R) : RZ.iZipA X.K (tEvAS g W fns fa) σ H R := by
  obtain ⟨b, F, β, vs, bx, RS, h⟩ := h
  change AskI g W vs σ F β H R _ at h
  unfold evZip at h
  refine ⟨b, F, β, vs, bx, RS, ?_⟩
  cases e : fa fns vs bx with
  | stuck => rw [e] at h; exact h
  | exc x bx1 => rw [e] at h; exact h
  | ok r =>
    rw [e, bind_ok] at h
    intro xs F1 β1 H1 s1 ra
    rw [hK]
    split at h
    · rename_i ds es hd
      rw [hd] at ra
      cases ra with
      | cons a ra =>
        cases ra with
        | cons c ra =>
          cases ra
          cases a with
          | lst sa fa ra =>
            cases c with
            | lst sc fc rc => exact ⟨_, _, _, _, rfl, .inl ⟨.of sa, .of sc, h _ F1 β1 H1 s1 (ItR.zipL sa fa ra sc fc rc)⟩⟩
    · rename_i ds es hd
      rw [hd] at ra
      cases ra with
      | cons a ra =>
        cases ra with
        | cons c ra =>
          cases ra
          cases a with
          | tup sa ra =>
            cases c with
            | tup sc rc => exact ⟨_, _, _, _, rfl, .inr ⟨sa, sc, h _ F1 β1 H1 s1 (ItR.zipT sa ra sc rc)⟩⟩
    · exact h.elim
theorem evEnum_imp (hK : X.K = g.K) {fa : SemA} {σ : L2.St} {H : Hp} {R : It → Hp → Prop} (h : tEvI g W fns (evEnum fa) σ H R) : iEnum X.K (tEvAS g W fns fa) σ H R := by
  obtain ⟨b, F, β, vs, bx, RS, h⟩ := h
  change AskI g W vs σ F β H R _ at h
  unfold evEnum at h
  refine ⟨b, F, β, vs, bx, RS, ?_⟩
  cases e : fa fns vs bx with
  | stuck => rw [e] at h; exact h
  | exc x bx1 => rw [e] at h; exact h
  | ok r =>
    rw [e, bind_ok] at h
    intro xs F1 β1 H1 s1 ra
    rw [hK]
    split at h
    · rename_i ds hd
      rw [hd] at ra
      cases ra with
      | cons a ra =>
        cases ra
        cases a with
        | lst sa fa ra => exact ⟨_, _, rfl, .of sa, h _ F1 β1 H1 s1 (ItR.enum sa fa ra)⟩
    · exact h.elim

/-! ### slices -/
def optI (c : Fns) (vs : Vs) (f : Option SemE) (bx : Bx) : Res (Option Int × Bx) := match f with
  | none => .ok (none, bx)
  | some fl => (fl c vs bx).bind fun q => match q.d with | .int i => .ok (some i, q.bx) | _ => .stuck
def cutD (ds : List D) (lo hi : Option Int) : List D := (ds.drop (HT.sIx ds.length 0 lo)).take (HT.sIx ds.length ds.length hi - HT.sIx ds.length 0 lo)
def evSl (f : SemE) (lo hi : Option SemE) : SemE := fun c vs bx => (f c vs bx).bind fun r => (optI c vs lo r.bx).bind fun l => (optI c vs hi l.2).bind fun u => match r.d with
  | .lst ds => fin (some (.lst (cutD ds l.1 u.1), true)) r.l u.2
  | .tup ds => fin (some (.tup (cutD ds l.1 u.1), false)) r.l u.2
  | _ => .stuck
def tEvO (g : Gx) (W : WX) (fns : Fns) (f : Option SemE) : TO := match f with
  | none => tNoPart
  | some f => tPart (tEvE g W fns f)
def rSlA' (K : PySem.W.Frag) : V → Option Int → Option Int → Hp → VK → Prop := fun x lo hi H Q => rSlL K x lo hi H Q ∨ rSlA K x lo hi H Q
theorem sl_all : SlR X (rSlA' X.K) := sl_list.or sl_tupA
/-- one bound -/
theorem optE_step {f : Option SemE} {b : Bse} {F : Addr → Prop} {β : List Addr} {H : Hp} {σ : L2.St} {vs : Vs} {bx : Bx} {k : Option Int × Bx → Res ER} {Q : VK} {Q' : Option Int → Hp → Prop} (R : RelS g.toGh b F β H σ vs bx)
    (h : AskE g W vs σ F β H Q ((optI fns vs f bx).bind k))
    (hk : ∀ o bx1 F1 β1 H1, Stp g.toGh F β H F1 β1 H1 bx1 → AskE g W vs σ F1 β1 H1 Q (k (o, bx1)) → Q' o H1) : tEvO g W fns f σ H Q' := by
  cases f with
  | none => exact hk none bx F β H (.refl R.box) h
  | some fl =>
    unfold optI at h
    refine evE_step R (fun r v F1 β1 H1 e s x => ?_) (fun x bx1 e => ?_) fun e => ?_
    · simp only [e, bind_ok] at h
      have cn := x.con R s
      cases ed : r.d with
      | int i =>
        rw [ed] at h cn
        exact ⟨i, cn.int, hk (some i) r.bx F1 β1 H1 s (AskE.from R s h)⟩
      | _ => rw [ed] at h; exact h.elim
    · simp only [e, bind_exc] at h; exact h
    · simp only [e, bind_stuck] at h; exact h
theorem sIx_all {n : Nat} {lo hi : Option Int} {ds : List D} (hl : ds.length = n) (hw : HT.sIx n 0 lo = 0 ∧ HT.sIx n n hi = n) : cutD ds lo hi = ds := by
  subst hl
  unfold cutD
  rw [hw.1, hw.2, Nat.sub_zero, List.drop_zero, List.take_length]
theorem evSl_imp (hK : X.K = g.K) {f : SemE} {lo hi : Option SemE} {σ : L2.St} {H : Hp} {Q : VK} (h : tEvE g W fns (evSl f lo hi) σ H Q) : tSl (rSlA' X.K) (tEvE g W fns f) (tEvO g W fns lo) (tEvO g W fns hi) σ H Q := by
  obtain ⟨b, F, β, vs, bx, R, h⟩ := h
  change AskE g W vs σ F β H Q _ at h
  unfold evSl at h
  refine evE_step R (fun r v F1 β1 H1 e s x => ?_) (fun x bx1 e => ?_) fun e => ?_
  · rw [e, bind_ok] at h
    have R1 := R.stp s
    replace h := AskE.from R s h
    refine optE_step R1 h fun l bx2 F2 β2 H2 s2 h => ?_
    have R2 := R1.stp s2
    refine optE_step R2 h fun u bx3 F3 β3 H3 s3 h => ?_
    have R3 := R2.stp s3
    have c1 := x.con R s
    have c2 := c1.keep s2 s.box fun p z => (R1.lent z).2.1
    have c3 := c2.keep s3 s2.box fun p z => (R2.lent z).2.1
    rw [hK]
    cases ed : r.d with
    | lst ds =>
      rw [ed] at h c3
      replace h : AskE g W vs σ F3 β3 H3 Q (fin (some (.lst (cutD ds l u), true)) r.l bx3) := h
      obtain ⟨d, fr, eo, bxr, out⟩ := fin_ok (Q := Q) (W := W) (bx' := bx3) R3 (.refl R3.box) (show AskE g W vs σ F3 β3 H3 Q _ from h)
      cases eo
      obtain ⟨p, us, rfl, ep, np, rr⟩ := c3
      refine .inl ⟨p, us, rfl, .of ep, fun c hc => ?_⟩
      have k := (Stp.new (o := .lst (cutV us l u)) bxr hc).keeps (K := g.K) bxr
      refine out.new (same_new hc) hc ⟨_, upd_same, ?_⟩
      unfold cutV cutD
      rw [rr.length]
      exact ((RepAll.keep (by unfold cutV at k; rw [rr.length] at k; exact k) rr).drop _).take _
    | tup ds =>
      rw [ed] at h c3
      replace h : AskE g W vs σ F3 β3 H3 Q (fin (some (.tup (cutD ds l u), false)) r.l bx3) := h
      obtain ⟨d, fr, eo, bxr, out⟩ := fin_ok (Q := Q) (W := W) (bx' := bx3) R3 (.refl R3.box) (show AskE g W vs σ F3 β3 H3 Q _ from h)
      cases eo
      obtain ⟨p, us, rfl, ep, rr⟩ := c3.tup
      refine .inr ⟨p, us, rfl, ep, fun hw => ?_, fun hw c hc => ?_⟩
      · rw [rr.length] at hw
        refine out.val0 (.tup ep ?_)
        rw [sIx_all rfl hw]
        exact rr
      · have k := (Stp.new (o := .tup (cutV us l u)) bxr hc).keeps (K := g.K) bxr
        refine out.val (same_new hc) (.tup (.of upd_same) ?_)
        unfold cutV cutD
        rw [rr.length]
        exact ((RepAll.keep (by unfold cutV at k; rw [rr.length] at k; exact k) rr).drop _).take _
    | _ => rw [ed] at h; exact h.elim
  · rw [e] at h; exact h
  · rw [e] at h; exact h

/-! ### isinstance -/
def D.ty : D → Option String
  | .non => some "NoneType"
  | .bl _ => some "bool"
  | .int _ => some "int"
  | .str _ => some "str"
  | .tup _ => some "tuple"
  | .lst _ => some "list"
  | .dK _ => some "dict"
  | .dT _ => some "dict"
  | _ => none
/-- is the type T a or above it -/
def tyIs (a T : String) : Option Bool := if T == "int" then some (a == "int" || a == "bool") else if T == "bool" || T == "str" || T == "tuple" || T == "list" || T == "dict" then some (a == T) else none
def isiD (T : String) (ds : List D) : Option (D × Bool) := match ds with
  | [d] => match d.ty with
    | some a => match tyIs a T with
      | some b => some (.bl b, false)
      | none => none
    | none => none
  | _ => none
theorem tyX_of {G : Gh} {F : Addr → Prop} {β : List Addr} {H : Hp} {v : V} {d : D} {a : String} (h : d.ty = some a) (c : Con G F β H v d) : TyX G.K H v (.type a) := by
  cases d <;> first | (cases h; done) | skip
  · cases h; rw [c.non]; exact .base .non
  · cases h; rw [c.bl]; exact .base (.bl _)
  · cases h; rw [c.int]; exact .base (.int _)
  · cases h; rw [c.str]; exact .base (.str _)
  · cases h
    obtain ⟨p, us, rfl, s, _⟩ := c.tup
    rcases s with (s | ⟨o, s⟩) | ⟨o, its, n, s, hc, _⟩
    · exact .base (.tup s)
    · exact .fTuple s
    · exact .kTuple s hc
  · cases h
    obtain ⟨p, us, rfl, s, _⟩ := c
    exact .base (.lst s)
  · cases h
    obtain ⟨p, us, rfl, s, _⟩ := c
    exact .base (.dK s)
  · cases h
    obtain ⟨p, us, rfl, s, _⟩ := c
    exact .base (.dT s)
theorem kit_of_tyIs {K : PySem.W.Frag} {d : D} {a T : String} {b : Bool} (hd : d.ty = some a) (h : tyIs a T = some b) : PySem.W.kitOne K (.type a) (.type T) = some b := by
  apply kit_ty
  have ha : a = "NoneType" ∨ a = "bool" ∨ a = "int" ∨ a = "str" ∨ a = "tuple" ∨ a = "list" ∨ a = "dict" := by cases d <;> simp [D.ty] at hd <;> simp [← hd]
  unfold tyIs at h
  split at h
  · rename_i hT
    have : T = "int" := by simpa using hT
    subst this
    cases h
    rcases ha with rfl | rfl | rfl | rfl | rfl | rfl | rfl <;> decide +kernel
  · split at h
    · rename_i hT
      have hT : T = "bool" ∨ T = "str" ∨ T = "tuple" ∨ T = "list" ∨ T = "dict" := by simpa [or_assoc] using hT
      cases h
      rcases hT with rfl | rfl | rfl | rfl | rfl <;> rcases ha with rfl | rfl | rfl | rfl | rfl | rfl | rfl <;> decide +kernel
    · cases h
/-- isinstance(e, T), T the built-in type's name -/
theorem evIsi_imp (hK : X.K = g.K) {T : String} {f : SemE} {σ : L2.St} {H : Hp} {Q : VK} (h : tEvE g W fns (evCB (isiD T) (evConsC f evNil)) σ H Q) : tCB (rIsi X.K) (tCons (tEvE g W fns f) (tCons (tC (.ty T)) tNil)) σ H Q := by
  obtain ⟨b, F, β, vs, bx, R, h⟩ := h
  change AskE g W vs σ F β H Q _ at h
  unfold evCB evConsC evNil at h
  refine evE_step R (fun r v F1 β1 H1 e s x => ?_) (fun x bx1 e => ?_) fun e => ?_
  · simp only [e, bind_ok] at h
    have R1 := R.stp s
    replace h := AskE.from R s h
    obtain ⟨d, fr, eo, bxr, out⟩ := fin_ok R1 (.refl R1.box) h
    simp only [isiD] at eo
    cases et : r.d.ty with
    | none => simp only [et] at eo; cases eo
    | some a =>
      simp only [et] at eo
      cases ek : tyIs a T with
      | none => simp only [ek] at eo; cases eo
      | some k =>
        simp only [ek] at eo
        cases eo
        refine ⟨v, .ty T, .type a, .type T, k, rfl, .ty T, ?_, kit_of_tyIs et ek, out.val0 (.bl k)⟩
        rw [hK]
        exact tyX_of et (x.con R s)
  · simp only [e, bind_exc] at h; exact h
  · simp only [e, bind_stuck] at h; exact h

/-! ### several slots at once -/
/-- t = e, any target -/
def evAsgG (t : Tgt) (f : SemE) : SemS := fun c _ vs bx => (f c vs bx).out vs fun r => match t.bind r.d (freeze r.ls vs) with
  | some vs1 => .next vs1 r.bx
  | none => .stuck
theorem tEvS_asgG {t : Tgt} {f : SemE} {D : Ends} {σ : L2.St} {H : Hp} (h : tEvS g W fns fuel (evAsgG t f) D σ H) : tAsg (tEvE g W fns f) (tEvG g t) D σ H := by
  obtain ⟨b, F, β, vs, bx, R, h⟩ := h
  refine out_step R h fun r v F1 β1 H1 e s x q => ?_
  obtain ⟨F2, s2, up, rp⟩ := x.shr R s
  have R2 := (R.stp s2).freeze r.ls
  refine ⟨b, _, β1, _, r.bx, r.d, R2, rp, ?_⟩
  cases et : t.bind r.d (freeze r.ls vs) with
  | none => rw [et] at q; exact q.elim
  | some vs1 =>
    rw [et] at q
    exact fun σ' R' _ _ => q σ' _ β1 H1 R'
/-- the slots for some values, in order -/
def parSlots : List Nat → List D → Vs → Option Vs
  | [], [], vs => some vs
  | i :: is, d :: ds, vs => parSlots is ds (vs.set i (.val d))
  | _, _, _ => none
def setAll : List Nat → List V → L2.St → L2.St
  | i :: is, v :: us, σ => setAll is us (σ.set i (some v))
  | _, _, σ => σ
theorem RelS.setAll {G : Gh} {b : Bse} {F : Addr → Prop} {β : List Addr} {H : Hp} {bx : Bx} : ∀ (is : List Nat) (us : List V) (ds : List D) (σ : L2.St) (vs vs' : Vs), RelS G b F β H σ vs bx → RepAll G F β H us ds → parSlots is ds vs = some vs' → RelS G b F β H (Pv.setAll is us σ) vs' bx
  | [], us, ds, σ, vs, vs', R, r, h => by
    cases r with
    | nil => simp only [parSlots, Option.some.injEq] at h; subst h; exact R
    | cons a r => simp [parSlots] at h
  | i :: is, us, ds, σ, vs, vs', R, r, h => by
    cases r with
    | nil => simp [parSlots] at h
    | cons a r =>
      simp only [parSlots] at h
      exact RelS.setAll is _ _ _ _ _ (R.setVal i a) r h
/-- x, y = a, b -/
def evPar (is : List Nat) (fa : SemA) : SemS := fun c _ vs bx => (fa c vs bx).out vs fun r => match parSlots is r.ds (freeze r.l vs) with
  | some vs1 => .next vs1 r.bx
  | none => .stuck
theorem evPar_step {is : List Nat} {fa : SemA} {D : Ends} {σ : L2.St} {H : Hp} {Q : List V → Hp → Prop} (h : tEvS g W fns fuel (evPar is fa) D σ H) (hq : ∀ us H', us.length = is.length → D.nx (Pv.setAll is us σ) H' → Q us H') : tEvAS g W fns fa σ H Q := by
  obtain ⟨b, F, β, vs, bx, R, h⟩ := h
  unfold evPar at h
  refine ⟨b, F, β, vs, bx, R, ?_⟩
  cases e : fa fns vs bx with
  | stuck => rw [e] at h; exact h
  | exc x bx1 =>
    rw [e] at h
    exact fun cls d F' β' H' s xr => h cls d σ F' β' H' (R.stp s) xr
  | ok r =>
    rw [e] at h
    simp only [Res.out] at h
    intro us F1 β1 H1 s1 ra
    cases ep : parSlots is r.ds (freeze r.l vs) with
    | none => rw [ep] at h; exact h.elim
    | some vs1 =>
      rw [ep] at h
      have hl : ∀ (is : List Nat) (ds : List Pv.D) (vs vs' : Vs), parSlots is ds vs = some vs' → ds.length = is.length := by
        intro is
        induction is with
        | nil => intro ds vs vs' h; cases ds <;> simp [parSlots] at h ⊢
        | cons i is ih =>
          intro ds vs vs' h
          cases ds with
          | nil => simp [parSlots] at h
          | cons d ds => simp only [parSlots] at h; simpa using ih _ _ _ h
      exact hq us H1 (by rw [ra.length]; exact hl _ _ _ _ ep) (h _ _ β1 H1 (RelS.setAll _ _ _ _ _ _ ((R.stp s1).freeze r.l) ra ep))
theorem tEvS_par {i j : Nat} {fa : SemA} {D : Ends} {σ : L2.St} {H : Hp} (h : tEvS g W fns fuel (evPar [i, j] fa) D σ H) : tPar i j (tEvAS g W fns fa) D σ H :=
  evPar_step h fun us H' hl q => by
    match us, hl with
    | [v, w], _ => exact ⟨v, w, rfl, q⟩
theorem tEvS_par3 {i j l : Nat} {fa : SemA} {D : Ends} {σ : L2.St} {H : Hp} (h : tEvS g W fns fuel (evPar [i, j, l] fa) D σ H) : tPar3 i j l (tEvAS g W fns fa) D σ H :=
  evPar_step h fun us H' hl q => by
    match us, hl with
    | [u, v, w], _ => exact ⟨u, v, w, rfl, q⟩
end
end Pv

/-! Pv.L: items of boxes, new boxes, raise, calls without arguments; the plain syntax and what it means. -/
namespace Pv
open L2 PySem PyProof.Rows PySem.Spec

section
variable {g : Gx} {W : WX} {fns : Fns} {fuel : Nat} {X : Cx}
def D.boxN : D → Option Nat
  | .box k => some k
  | _ => none
def evIx (f1 f2 : SemE) : SemE := fun c vs bx => (f1 c vs bx).bind fun r1 => (f2 c vs r1.bx).bind fun r2 => match r1.d.boxN with
  | some k => match r2.d, r2.bx[k]? with
    | .int i, some ns => fin ((atD (ns.map .int) i).map fun d => (d, false)) [] r2.bx
    | _, _ => .stuck
  | none => fin (ixD r1.d r2.d) (r1.l ++ r2.l) r2.bx
theorem evIx_imp {f1 f2 : SemE} {σ : L2.St} {H : Hp} {Q : VK} (h : tEvE g W fns (evIx f1 f2) σ H Q) : tOp (rIxA g.K) (tEvE g W fns f1) (tEvE g W fns f2) σ H Q := by
  obtain ⟨b, F, β, vs, bx, R, h⟩ := h
  unfold evIx at h
  refine ⟨b, F, β, vs, bx, R, ?_⟩
  cases e1 : f1 fns vs bx with
  | stuck => rw [e1] at h; exact h
  | exc x bx1 => rw [e1] at h; exact h
  | ok r1 =>
    rw [e1, bind_ok] at h
    intro v1 F1 β1 H1 s1 x1
    refine ⟨b, F1, β1, vs, r1.bx, R.stp s1, ?_⟩
    cases e2 : f2 fns vs r1.bx with
    | stuck => rw [e2] at h; exact h
    | exc x bx2 =>
      rw [e2] at h
      exact fun cls d F2 β2 H2 s2 xr => h cls d F2 β2 H2 (s1.trans s2) xr
    | ok r2 =>
      rw [e2, bind_ok] at h
      intro v2 F2 β2 H2 s2 x2
      have R1 := R.stp s1
      have R2 := R1.stp s2
      have c1 := ((x1.con R s1).keep s2 s1.box fun p z => (R1.lent z).2.1).up (F' := fun p => F2 p ∨ Lent vs σ (r1.l ++ r2.l) p) fun p z => z.imp id (Lent.up fun i m => List.mem_append_left _ m)
      have c2 := (x2.con R1 s2).up (F' := fun p => F2 p ∨ Lent vs σ (r1.l ++ r2.l) p) fun p z => z.imp id (Lent.up fun i m => List.mem_append_right _ m)
      cases ebn : r1.d.boxN with
      | some k =>
        have ed : r1.d = .box k := by cases q : r1.d <;> rw [q] at ebn <;> cases ebn; rfl
        rw [ebn] at h
        rw [ed] at c1
        cases ed2 : r2.d with
        | int i =>
          rw [ed2] at h c2
          cases eb : r2.bx[k]? with
          | none => simp only [eb] at h
          | some ns =>
            simp only [eb] at h
            cases ea : atD (ns.map D.int) i with
            | none => simp only [ea] at h; exact h.elim
            | some d =>
              simp only [ea] at h
              cases (show Rep g.toGh _ β2 H2 v1 (.box k) from c1) with
              | box ek =>
                rename_i a
                obtain ⟨nf, ns', e3, e4⟩ := R2.box.at_ k a ek
                rw [eb] at e3; cases e3
                obtain ⟨v, ev, rv⟩ := atI_of (g := g.toGh) (F := fun p => F2 p ∨ Lent vs σ [] p) (β := β2) (H := H2) RepAll.of_ints ea
                exact .inl (.inl ⟨a, _, i, v, rfl, c2.int, .of e4, ev, h v F2 β2 H2 (s1.trans s2) rv.nrm⟩)
        | _ => rw [ed2] at h; exact h.elim
      | none =>
        rw [ebn] at h
        obtain ⟨d, fr, eo, bxr, out⟩ := fin_ok R (s1.trans s2) h
        exact ixD_ok _ _ _ _ _ _ _ _ _ _ _ eo bxr c1 c2 out

/-! ### a new box -/
def evBoxAsg (i : Nat) (f : SemE) : SemS := fun c _ vs bx => (f c vs bx).out vs fun r => match r.pv, r.d with
  | .fr, .lst ds => match intsOf ds with
    | some ns => .next ((freeze r.l vs).set i (.val (.box r.bx.length))) (r.bx ++ [ns])
    | none => .stuck
  | _, _ => .stuck
theorem RelS.addBox {G : Gh} {b : Bse} {F : Addr → Prop} {β : List Addr} {H : Hp} {σ : L2.St} {vs : Vs} {bx : Bx} {p : Addr} {ns : List Int} (R : RelS G b F β H σ vs bx) (nf : ¬ F p) (nb : ¬ p ∈ β) (m : b.M p ∨ b.H p = none)
    (e : H p = some (.lst (ns.map V.int))) (ap : ∀ (j : Nat) dj, vs[j]? = some (.own dj) → σ[j]? ≠ some (some (.ref p))) : RelS G b F (β ++ [p]) H σ vs (bx ++ [ns]) := by
  have pre : ∀ (k : Nat) a, β[k]? = some a → (β ++ [p])[k]? = some a := fun k a e => by
    rw [List.getElem?_append_left (List.getElem?_eq_some_iff.mp e).1]; exact e
  have kp : Keeps G.K F β H F (β ++ [p]) H := ⟨fun _ f => f, fun _ _ s => s, fun _ _ _ _ s => s, fun _ _ _ s => s, pre⟩
  refine ⟨R.good, R.ext, fun k a e => pre k a (R.pre k a e), fun q hq => ?_, ⟨by simp [R.box.len], ?_, fun k a ek => ?_, R.box.th, R.box.tab⟩, R.len, fun i s es => ?_, R.inj⟩
  · rcases List.mem_append.mp hq with hq | hq
    · exact R.nw q hq
    · cases List.mem_singleton.mp hq; exact m
  · rw [List.nodup_append]
    exact ⟨R.box.nd, by simp, fun x hx y hy => by cases List.mem_singleton.mp hy; intro z; exact nb (z ▸ hx)⟩
  · by_cases hk : k < β.length
    · rw [List.getElem?_append_left hk] at ek
      obtain ⟨n, ns', e1, e2⟩ := R.box.at_ k a ek
      exact ⟨n, ns', by rw [List.getElem?_append_left (by rw [← R.box.len]; exact hk)]; exact e1, e2⟩
    · rw [List.getElem?_append_right (by omega)] at ek
      have hk0 : k - β.length = 0 := by
        cases q : k - β.length with
        | zero => rfl
        | succ n => rw [q] at ek; simp at ek
      rw [hk0] at ek
      cases ek
      refine ⟨nf, ns, ?_, e⟩
      rw [List.getElem?_append_right (by rw [← R.box.len]; omega), ← R.box.len, hk0]
      rfl
  · have q := R.slot i s es
    cases s with
    | none => trivial
    | val d => obtain ⟨v, e2, r⟩ := q; exact ⟨v, e2, r.keep kp⟩
    | own d =>
      obtain ⟨p', e2, nf', nb', m', o⟩ := q
      refine ⟨p', e2, nf', fun hp => ?_, m', o.keep kp rfl⟩
      rcases List.mem_append.mp hp with hp | hp
      · exact nb' hp
      · cases List.mem_singleton.mp hp; exact ap i d es e2
theorem intsOf_us {G : Gh} {F : Addr → Prop} {β : List Addr} {H : Hp} {us : List V} {ds : List D} {ns : List Int} (h : intsOf ds = some ns) (r : RepAll G F β H us ds) : us = ns.map V.int := by
  have e := intsOf_ok h
  subst e
  clear h
  induction ns generalizing us with
  | nil => cases r; rfl
  | cons n ns ih => cases r with | cons a b => cases a; rw [List.map_cons, ← ih b]
theorem tEvS_boxAsg {i : Nat} {f : SemE} {D : Ends} {σ : L2.St} {H : Hp} (h : tEvS g W fns fuel (evBoxAsg i f) D σ H) : tAsg (tEvE g W fns f) (gName i) D σ H := by
  obtain ⟨b, F, β, vs, bx, R, h⟩ := h
  unfold evBoxAsg at h
  refine out_step R h fun r v F1 β1 H1 e s x q => ?_
  have R' := R.stp s
  cases hp : r.pv with
  | fr =>
    unfold ResR at x
    rw [hp] at q x
    obtain ⟨p, rfl, nf, hn, nb, o⟩ := x
    cases ed : r.d with
    | lst ds =>
      rw [ed] at q o
      simp only at q
      cases ei : intsOf ds with
      | none => rw [ei] at q; exact q.elim
      | some ns =>
        rw [ei] at q
        obtain ⟨us, ep, rr⟩ := o
        rw [intsOf_us ei rr] at ep
        have m : b.M p ∨ b.H p = none := by
          cases q : b.H p with
          | none => exact .inr rfl
          | some o =>
            refine .inl (Classical.byContradiction fun n => ?_)
            obtain ⟨_, this⟩ := R.ext.live q n
            rw [hn] at this; cases this
        have ap : ∀ (j : Nat) dj, (freeze r.l vs)[j]? = some (.own dj) → σ[j]? ≠ some (some (.ref p)) := fun j dj ej es => by
          have ej' : vs[j]? = some (.own dj) := by
            rw [freeze_get] at ej
            split at ej
            · cases e1 : vs[j]? with
              | none => rw [e1] at ej; cases ej
              | some s0 => rw [e1] at ej; cases s0 <;> cases ej
            · exact ej
          exact Lent.ap R hn (j + 1) j dj ej' (by omega) es
        have R2 := (R'.freeze r.l).addBox (p := p) (ns := ns) (fun z => z.elim nf fun ⟨j, _, ⟨dj, ej⟩, esj⟩ => by
          obtain ⟨q, e1, _, _, _, oj⟩ := R.own ej
          rw [e1] at esj; cases esj
          obtain ⟨oo, ep, _⟩ := oj.there
          rw [hn] at ep; cases ep) nb m ep ap
        refine q _ _ _ _ (R2.setVal i (.box ?_))
        rw [← R'.box.len, List.getElem?_append_right (Nat.le_refl _), Nat.sub_self]
        rfl
    | _ => rw [ed] at q; exact q.elim
  | sh => rw [hp] at q; exact q.elim
  | ow j => rw [hp] at q; exact q.elim

/-! ### raise -/
def evRaise (k : Nat) : SemS := fun _ _ vs bx => .exc ⟨k, none⟩ vs bx
theorem tEvS_raise {k : Nat} {D : Ends} {σ : L2.St} {H : Hp} (h : tEvS g W fns fuel (evRaise k) D σ H) : W (.ref (g.ca k)) none σ H := by
  obtain ⟨b, F, β, vs, bx, R, h⟩ := h
  exact h _ none σ F β H R ⟨rfl, rfl⟩

/-! ### a call without arguments -/
theorem pe_callS0 {CX : CXT} {k : Nat} {f : Addr} {fd : FuncData} {ps : List Str} {sp : Sp} {E : L2.St → XK} {x : Str} {p pos : Pos} (F : FnOk X.prog X.w X.K X.mg X.base CX k f fd ps sp) (hr : Room k X.A) (hg : Gl X x) (hm : X.mg x = some (.ref f)) (hk : PySem.W.keepIn X.K (.ref f) = true) (hb : Binds X.K fd ps []) (hx : ∀ σ, PassesAt CX X σ (E σ))
    (hdb : (x == ("__debug__" : Str)) = false) : PE X (.Call (.Name x p) [] [] pos) (tCallS sp E tNil) := by
  refine ⟨fun pins s σ H Q I h => ?_⟩
  refine wpAny_Call_Name_kw (ld_glob I hg hm ?_ hdb)
  exact PySem.W.callWith_K0 I.kIn hk (run_fnS (us := []) F hr hb (hx σ) I .nil h)
end
end Pv

/-! Pv.V: stores in one go that keep new objects, lists turned round. -/
namespace Pv
open L2 PySem PyProof.Rows PySem.Spec
section
variable {g : Gx} {W : WX} {fns : Fns} {fuel : Nat} {X : Cx}
/-- a result that leans on no slot -/
def okP (r : ER) : Bool := r.l.isEmpty && match r.pv with
  | .sh => true
  | .fr => true
  | .ow _ => false
def slotOf (r : ER) : Slot := match r.pv with
  | .fr => .own r.d
  | _ => .val r.d
def evParO (i j : Nat) (f1 f2 : SemE) : SemS := fun c _ vs bx => (f1 c vs bx).out vs fun r1 => (f2 c vs r1.bx).out vs fun r2 =>
  if okP r1 && okP r2 then .next ((vs.set i (slotOf r1)).set j (slotOf r2)) r2.bx else .stuck
def FreshV (G : Gh) (b : Bse) (F : Addr → Prop) (β : List Addr) (H : Hp) (v : V) (r : ER) : Prop := match r.pv with
  | .fr => ∃ p, v = .ref p ∧ ¬ F p ∧ ¬ p ∈ β ∧ (b.M p ∨ b.H p = none) ∧ OwnR G F β H p r.d
  | _ => Rep G F β H v r.d
theorem lent_nil {vs : Vs} {σ : L2.St} {p : Addr} : ¬ Lent vs σ [] p := fun ⟨i, h, _⟩ => by cases h
theorem fresh_of {G : Gh} {b : Bse} {F F' : Addr → Prop} {β β' : List Addr} {H H' : Hp} {σ : L2.St} {vs : Vs} {bx : Bx} {r : ER} {v : V} (R : RelS G b F β H σ vs bx) (x : ResR G vs σ H F' β' H' r v) (h : okP r = true) : FreshV G b F' β' H' v r := by
  obtain ⟨d, l, pv, bx'⟩ := r
  unfold okP at h
  simp only [Bool.and_eq_true] at h
  have hl : l = [] := by simpa using h.1
  subst hl
  unfold FreshV
  unfold ResR at x
  cases pv with
  | sh => exact Rep.up (fun p z => z.elim id fun q => absurd q lent_nil) x
  | fr =>
    obtain ⟨p, e, nf, hn, nb, o⟩ := x
    refine ⟨p, e, nf, nb, ?_, o.up fun p z => z.elim id fun q => absurd q lent_nil⟩
    cases q : b.H p with
    | none => exact .inr rfl
    | some o =>
      refine .inl (Classical.byContradiction fun n => ?_)
      obtain ⟨_, this⟩ := R.ext.live q n
      rw [hn] at this; cases this
  | ow i => simp at h
theorem FreshV.stp {G : Gh} {b : Bse} {F F' : Addr → Prop} {β β' : List Addr} {H H' : Hp} {r : ER} {v : V} {bx bx' : Bx} (x : FreshV G b F β H v r) (bo : BoxR G F β H bx) (s : Stp G F β H F' β' H' bx') : FreshV G b F' β' H' v r := by
  unfold FreshV at *
  cases hp : r.pv with
  | fr =>
    rw [hp] at x
    simp only at x ⊢
    obtain ⟨p, e, nf, nb, m, o⟩ := x
    obtain ⟨u, eu, mu⟩ := o.there
    exact ⟨p, e, s.notF eu nb nf, s.notB eu nb, m, o.keep (s.keeps bo) (s.at_ eu nb (Mut.nt mu))⟩
  | sh =>
    rw [hp] at x
    exact Rep.keep (s.keeps bo) x
  | ow i =>
    rw [hp] at x
    exact Rep.keep (s.keeps bo) x
theorem put_fresh {G : Gh} {b : Bse} {F : Addr → Prop} {β : List Addr} {H : Hp} {σ : L2.St} {vs : Vs} {bx : Bx} {r : ER} {v : V} (R : RelS G b F β H σ vs bx) (x : FreshV G b F β H v r) (i : Nat)
    (ap : r.pv = .fr → ∀ p, v = .ref p → ∀ (j : Nat) dj, vs[j]? = some (.own dj) → j ≠ i → σ[j]? ≠ some (some (.ref p))) : RelS G b F β H (σ.set i (some v)) (vs.set i (slotOf r)) bx := by
  unfold FreshV at x
  unfold slotOf
  cases hp : r.pv with
  | fr =>
    rw [hp] at x
    obtain ⟨p, e, nf, nb, m, o⟩ := x
    subst e
    exact R.setOwn i nf nb m o (ap hp p rfl)
  | sh =>
    rw [hp] at x
    exact R.setVal i x
  | ow k =>
    rw [hp] at x
    exact R.setVal i x
theorem tEvS_parO {i j : Nat} {f1 f2 : SemE} {D : Ends} {σ : L2.St} {H : Hp} (h : tEvS g W fns fuel (evParO i j f1 f2) D σ H) : tPar i j (tCons (tEvE g W fns f1) (tCons (tEvE g W fns f2) tNil)) D σ H := by
  obtain ⟨b, F, β, vs, bx, R, h⟩ := h
  unfold evParO at h
  refine out_step R h fun r1 v1 F1 β1 H1 e1 s1 x1 q => ?_
  have R1 := R.stp s1
  refine out_step R1 q fun r2 v2 F2 β2 H2 e2 s2 x2 q => ?_
  have R2 := R1.stp s2
  by_cases hc : (okP r1 && okP r2) = true
  · rw [if_pos hc] at q
    rw [Bool.and_eq_true] at hc
    have y1 := (fresh_of R x1 hc.1).stp R1.box s2
    have y2 := fresh_of R1 x2 hc.2
    refine ⟨v1, v2, rfl, ?_⟩
    have hap1 : r1.pv = .fr → ∀ p, v1 = .ref p → ∀ (k : Nat) dj, vs[k]? = some (.own dj) → k ≠ i → σ[k]? ≠ some (some (.ref p)) := fun e p ev k dj ek hk => by
      unfold ResR at x1
      rw [e] at x1
      obtain ⟨p', ev', _, hn, _⟩ := x1
      rw [ev] at ev'; cases ev'
      exact Lent.ap R hn i k dj ek hk
    have R3 := put_fresh R2 y1 i hap1
    refine q _ F2 β2 H2 (put_fresh R3 y2 j fun e p ev k dj ek hk => ?_)
    unfold ResR at x2
    rw [e] at x2
    obtain ⟨p', ev', _, hn, _⟩ := x2
    rw [ev] at ev'; cases ev'
    intro es
    by_cases hik : i = k
    · subst hik
      have hl : i < σ.length := by
        have := (List.getElem?_eq_some_iff.mp es).1
        simpa using this
      rw [List.getElem?_set_self hl] at es
      cases es
      have hl2 : i < vs.length := by rw [R.len]; exact hl
      rw [List.getElem?_set_self hl2] at ek
      unfold slotOf at ek
      have z1 := fresh_of R x1 hc.1
      cases hp : r1.pv with
      | fr =>
        unfold FreshV at z1
        rw [hp] at z1
        obtain ⟨p3, ev3, _, _, _, o⟩ := z1
        cases ev3
        obtain ⟨u, eu, _⟩ := o.there
        rw [hn] at eu; cases eu
      | sh => rw [hp] at ek; cases ek
      | ow k => rw [hp] at ek; cases ek
    · rw [List.getElem?_set_ne hik] at ek es
      exact Lent.ap R1 hn j k dj ek hk es
  · rw [if_neg hc] at q; exact q.elim

/-! ### xs[::-1], of lists and tuples -/
section
variable {prog : Program} {w : World} {A : Around} {E : Value → Shared → Prop} {s : Shared}
theorem places_rev (n : Nat) : Builtin.Slice.slicePlaces ((n : Int) - 1) (-1) (-1) = n := by
  unfold Builtin.Slice.slicePlaces
  have h1 : ¬ ((-1 : Int) > 0) := by omega
  simp only [h1, if_false, Int.neg_neg, Int.ediv_one]
  split <;> omega
theorem sliceApplied_rev {sl : Addr} {vl vu vs : Value} {n : Nat} {Q : Int × Int × Nat → Shared → Prop} (hs : s.heap.IsSliceOf sl vl vu vs) (pl : IsPart vl none) (pu : IsPart vu none) (ps : IsPart vs (some (-1)))
    (h : Q ((n : Int) - 1, -1, n) s) : wpAny (model prog w) A (Builtin.Slice.sliceApplied (.ref sl) (pure (n : Int))) Q E s := by
  obtain ⟨os, hos, hcs, hds⟩ := id hs
  unfold Builtin.Slice.sliceApplied Builtin.Slice.sliceFields
  refine wpAny_bind (wpAny_bind (wpAny_field hos hds (x := vl) rfl (wpAny_bind (wpAny_field hos hds (x := vu) rfl (wpAny_bind (wpAny_field hos hds (x := vs) rfl (wpAny_pure ?_)))))))
  refine wpAny_bind (HT.slicePart_ ps ?_)
  show wpAny _ _ (if ((-1 : Int) == 0) = true then _ else _) _ _ s
  rw [if_neg (by decide)]
  refine wpAny_bind (HT.slicePart_ pl (wpAny_bind (HT.slicePart_ pu (wpAny_bind (wpAny_pure ?_)))))
  show wpAny _ _ (pure ((n : Int) - 1, (-1 : Int), Builtin.Slice.slicePlaces ((n : Int) - 1) (-1) (-1))) _ _ s
  rw [places_rev]
  exact wpAny_pure h
theorem pick_rev (xs : Array Value) : ((List.range xs.size).filterMap fun (m : Nat) => xs[((xs.size : Int) - 1 + (m : Int) * -1).toNat]?).toArray = xs.toList.reverse.toArray := by
  have e : ∀ l : List Nat, (∀ m ∈ l, m < xs.size) → (l.filterMap fun (m : Nat) => xs[((xs.size : Int) - 1 + (m : Int) * -1).toNat]?) = (l.map fun k => xs.size - 1 - k).filterMap (xs[·]?) := by
    intro l
    induction l with
    | nil => intro _; rfl
    | cons k l ih =>
      intro h
      have hk := h k (.head _)
      have : ((xs.size : Int) - 1 + (k : Int) * -1).toNat = xs.size - 1 - k := by omega
      rw [List.filterMap_cons, List.map_cons, List.filterMap_cons, this, ih fun m q => h m (.tail _ q)]
  rw [e _ fun m q => List.mem_range.mp q, PySem.W.krv_range, List.filterMap_reverse, PySem.W.krv_all]
theorem getItem_tuple_rev {t sl : Addr} {items : Array Value} {vl vu vs : Value} {Q : Value → Shared → Prop} (ht : IsTup s.heap t items) (hs : s.heap.IsSliceOf sl vl vu vs) (pl : IsPart vl none) (pu : IsPart vu none) (ps : IsPart vs (some (-1)))
    (h : Q (.ref s.heap.objs.size) { s with heap := s.heap.push { cls := .type "tuple", data := .seq items.toList.reverse.toArray } })
    (hsz : items.size ≤ sizeLine) : wpAny (model prog w) A (getItem (.ref t) (.ref sl)) Q E s := by
  have htake : sizeOk (.seq items.toList.reverse.toArray) := by
    show items.toList.reverse.toArray.size ≤ sizeLine
    rw [List.size_toArray, List.length_reverse, Array.length_toList]
    exact hsz
  obtain ⟨os, hos, hcs, hds⟩ := id hs
  have hTs : s.TypeIs (.ref sl) "slice" := ⟨os, hos, hcs⟩
  unfold getItem
  try with_reducible refine wpAny_holding ?_
  first | refine wpAny_bind (wpAny_pure ?_) | skip
  refine wpAny_bind (wpAny_sequenceKey ht.typeIs (by decide) ?_)
  refine wpAny_bind (wpAny_callSpecial?_slot (name := Str.ofString "__getitem__") ht.typeIs PyProof.Rows.slot_tuple_getitem
    (wpAny_call_entry PyProof.Rows.slot_tuple_getitem ht.typeIs entry_tuple_getitem ?_ (args_tuple_getitem _ _)))
  show wpAny _ _ (Builtin.Tuple.tupleItemsOf (.ref t) >>= _) _ _ s
  refine wpAny_bind (tupleItemsOf_ ht ?_)
  refine wpAny_bind (wpAny_typeOf hTs ?_)
  rw [if_pos (by decide)]
  refine wpAny_bind (sliceApplied_rev hs pl pu ps ?_)
  have hno : ¬ (((items.size : Int) - 1 == 0 && (-1 : Int) == 1 && items.size == items.size) = true) := by
    intro q
    rw [Bool.and_eq_true, Bool.and_eq_true] at q
    exact absurd q.1.2 (by decide)
  show wpAny _ _ (if ((items.size : Int) - 1 == 0 && (-1 : Int) == 1 && items.size == items.size) = true then _ else _) _ _ s
  rw [if_neg hno, pick_rev]
  first
    | exact wpAny_bind (m := Builtin.Tuple.tupleExact _) (wpAny_newObj_type (wpAny_pure ⟨_, rfl, wpAny_pure h⟩) htake)
    | exact wpAny_bind (m := Builtin.Tuple.tupleExact _) (wpAny_newObj_type (wpAny_bind (wpAny_pure (wpAny_pure ⟨_, rfl, wpAny_pure h⟩))) htake)
    | exact wpAny_bind (wpAny_bind (m := Builtin.Tuple.tupleExact _) (wpAny_newObj_type (wpAny_pure (wpAny_pure ⟨_, rfl, wpAny_pure h⟩)) htake))
    | exact wpAny_bind (wpAny_bind (m := Builtin.Tuple.tupleExact _) (wpAny_newObj_type (wpAny_pure ⟨_, rfl, wpAny_pure h⟩) htake))
end
def tRevA (K : PySem.W.Frag) (te : TE) : TE := fun σ H Q => te σ H fun x H1 => ∃ a xs, x = .ref a ∧ ((SqL K H1 a xs ∧ ∀ p, H1 p = none → Q (.ref p) (upd H1 p (.lst xs.reverse))) ∨ (SqT K H1 a xs ∧ ∀ p, H1 p = none → Q (.ref p) (upd H1 p (.tup xs.reverse))))
theorem pe_revA {e : Expr} {te : TE} {k : Nat} {p1 p2 p3 pos : Pos} (he : PE X e te) : PE X (.Subscript e (.Slice none none (some (.UnaryOp .USub (.Constant (.int 1) k p1) p2)) p3) pos) (tRevA X.K te) := by
  refine ⟨fun pins s σ H Q I h => ?_⟩
  refine Subscript_ (thn (he.run pins s σ H _ I h) fun v s1 ⟨x, H1, I1, r1, q1⟩ => ?_)
  obtain ⟨a, xs, ex, hq⟩ := q1
  subst ex
  cases r1
  have hst : PO X (some (.UnaryOp .USub (.Constant (.int 1) k p1) p2)) (tPart (tUn (rU fun i => .int (-i)) (tC (.int 1)))) := po_some (pe_un un_neg pe_int)
  refine wpAny_Slice (thn (po_none.run pins s1 σ H1 (fun o H2 => o = none ∧ H2 = H1) I1 ⟨rfl, rfl⟩) fun vl s2 ⟨l, H2, I2, pl, el, e2⟩ => ?_)
  subst el e2
  refine thn (po_none.run pins s2 σ H2 (fun o H3 => o = none ∧ H3 = H2) I2 ⟨rfl, rfl⟩) fun vu s3 ⟨u, H3, I3, pu, eu, e3⟩ => ?_
  subst eu e3
  refine thn (hst.run pins s3 σ H3 (fun o H4 => o = some (-1) ∧ H4 = H3) I3 ⟨1, rfl, -1, rfl, rfl, rfl⟩) fun vs s4 ⟨o, H4, I4, ps, eo, e4⟩ => ?_
  subst eo e4
  have I5 : Inv X pins σ H4 { s4 with heap := s4.heap.push { cls := .type "slice", data := .fields #[vl, vu, vs] } } := I4.kept (t' := s4.toks) fun b ob q => Heap.get?_push_of_some _ q
  show wpAny (model X.prog X.w) X.A (subscriptTail e (.Slice none none (some (.UnaryOp .USub (.Constant (.int 1) k p1) p2)) p3) (.ref a) (.ref s4.heap.objs.size)) (EP X pins σ Q) X.xe { s4 with heap := s4.heap.push { cls := .type "slice", data := .fields #[vl, vu, vs] } }
  rcases hq with ⟨hx, q⟩ | ⟨hx, q⟩
  · obtain ⟨its, r, ht, hz⟩ := I5.list hx
    have hlen := r.length
    refine tail_any (ops := [.ref a, .ref s4.heap.objs.size]) ht.isList.typeIs (PySem.slot_list_getitem.lookup) ?_ (by with_unfolding_all rfl)
    refine wpAny_getItem_list_slice ht.isList (Heap.IsSliceOf.new _ vl vu vs) pl pu ps (by decide) ?_ (by rw [List.size_toArray]; omega)
    rw [PySem.W.krv_pick]
    refine ⟨.ref _, _, I5.laid (t' := s4.toks) (o := .lst xs.reverse) (fun b ob q => Heap.get?_push_of_some _ q) (Nat.le_refl _) ?_, rfl, q _ (I5.hok.fresh (Nat.le_refl _))⟩
    exact ⟨by rw [List.length_reverse]; exact hz, _, 0, r.reverse, Heap.get?_push_size _ rfl⟩
  · obtain ⟨its, r, ht, hz⟩ := I5.tuple hx
    have hlen := r.length
    refine tail_any (ops := [.ref a, .ref s4.heap.objs.size]) ht.typeIs (PyProof.Rows.slot_tuple_getitem.lookup) ?_ (by with_unfolding_all rfl)
    refine getItem_tuple_rev ht (Heap.IsSliceOf.new _ vl vu vs) pl pu ps ?_ (by rw [List.size_toArray]; omega)
    refine ⟨.ref _, _, I5.laid (t' := s4.toks) (o := .tup xs.reverse) (fun b ob q => Heap.get?_push_of_some _ q) (Nat.le_refl _) ?_, rfl, q _ (I5.hok.fresh (Nat.le_refl _))⟩
    exact ⟨by rw [List.length_reverse]; exact hz, _, r.reverse, IsTup.new _ _⟩
def evRev (f : SemE) : SemE := fun c vs bx => (f c vs bx).bind fun r => match r.d with
  | .lst ds => fin (some (.lst ds.reverse, true)) r.l r.bx
  | .tup ds => fin (some (.tup ds.reverse, false)) r.l r.bx
  | _ => .stuck
theorem RepAll.rev {G : Gh} {F : Addr → Prop} {β : List Addr} {H : Hp} : ∀ {us : List V} {ds : List D}, RepAll G F β H us ds → RepAll G F β H us.reverse ds.reverse
  | _, _, .nil => .nil
  | _, _, .cons a b => by
    rw [List.reverse_cons, List.reverse_cons]
    exact b.rev.append (.cons a .nil)
theorem evRev_imp {f : SemE} {σ : L2.St} {H : Hp} {Q : VK} (h : tEvE g W fns (evRev f) σ H Q) : tRevA g.K (tEvE g W fns f) σ H Q := by
  obtain ⟨b, F, β, vs, bx, R, h⟩ := h
  change AskE g W vs σ F β H Q _ at h
  unfold evRev at h
  refine evE_step R (fun r v F1 β1 H1 e s x => ?_) (fun x bx1 e => ?_) fun e => ?_
  · simp only [e, bind_ok] at h
    have cn := x.con R s
    cases ed : r.d with
    | lst ds =>
      rw [ed] at h cn
      obtain ⟨d, fr, eo, bxr, out⟩ := fin_ok (Q := Q) (W := W) (q := some (.lst ds.reverse, true)) (l := r.l) R s (show AskE g W vs σ F β H Q (fin (some (.lst ds.reverse, true)) r.l r.bx) from h)
      cases eo
      obtain ⟨p, us, rfl, ep, _, rr⟩ := cn
      refine ⟨p, us, rfl, .inl ⟨.inl (.inl ep), fun q hq => ?_⟩⟩
      refine out.new (same_new hq) hq ⟨us.reverse, upd_same, ?_⟩
      exact RepAll.keep (Stp.keeps (Stp.new (o := .lst us.reverse) bxr hq) bxr) rr.rev
    | tup ds =>
      rw [ed] at h cn
      obtain ⟨d, fr, eo, bxr, out⟩ := fin_ok (Q := Q) (W := W) (q := some (.tup ds.reverse, false)) (l := r.l) R s (show AskE g W vs σ F β H Q (fin (some (.tup ds.reverse, false)) r.l r.bx) from h)
      cases eo
      obtain ⟨p, us, rfl, ep, rr⟩ := cn.tup
      refine ⟨p, us, rfl, .inr ⟨ep, fun q hq => ?_⟩⟩
      refine out.val (same_new hq) (.tup (.inl (.inl upd_same)) ?_)
      exact RepAll.keep (Stp.keeps (Stp.new (o := .tup us.reverse) bxr hq) bxr) rr.rev
    | _ => rw [ed] at h; exact h.elim
  · simp only [e, bind_exc] at h; exact h
  · simp only [e, bind_stuck] at h; exact h
end
end Pv

/-! Pv.W: enumerate over tuples. -/
namespace Pv
open L2 PySem PyProof.Rows PySem.Spec
theorem meets_enum_newT (l : Addr) (items : Array Value) :
    Meets (Builtin.«enumerate.__new__» ⟨[.type "enumerate", .ref l], []⟩) (fun _ R s => s.heap.IsTuple l items ∧
      R (.ok (.ret (.ref (s.heap.push { cls := .type "tuple_iterator", data := .fields #[.ref l, .int 0 0] }).objs.size)))
        { s with heap := (s.heap.push { cls := .type "tuple_iterator", data := .fields #[.ref l, .int 0 0] }).push { cls := .type "enumerate", data := .fields #[.none, .bool false, .ref s.heap.objs.size, rawInt 0, .none, .none] } }) :=
  .of_wp fun prog w A R s h => by
    obtain ⟨hp, g, d, tk, os⟩ := s; obtain ⟨hl, h⟩ := h
    have hsub := sub_enumerate
    have hL : Heap.IsTuple (Shared.heap ⟨hp, g, d, tk, os⟩) l items := hl
    obtain ⟨ob, hob, _⟩ := id hl
    wp_walk using AutoSeq1.wpAny_loadPart' hob
    refine wpAny_stack_any fun st => wpAny_pure ?_
    split
    · rename_i c _ _ _ _ _
      cases (c == Value.type "enumerate")
      · wp_walk using AutoSeq1.wpAny_loadPart' hob, wpAny_pyIter_tuple hL
        exact ⟨_, rfl, h⟩
      · wp_walk using AutoSeq1.wpAny_loadPart' hob, wpAny_pyIter_tuple hL
        exact ⟨_, rfl, h⟩
    · wp_walk using AutoSeq1.wpAny_loadPart' hob, wpAny_pyIter_tuple hL
      exact ⟨_, rfl, h⟩
section
variable {prog : Program} {w : World} {A : Around} {E : Value → Shared → Prop} {s : Shared}
theorem wpAny_pyNext_enum_endT {e it l : Addr} {i : Nat} {items : Array Value} {old : Value} {Q : Option Value → Shared → Prop} (hh : A.handled = none)
    (he : IsEnum s.heap e it (i : Int) old) (hit : s.heap.IsTupleIter it l i) (hl : s.heap.IsTuple l items) (hx : items[i]? = none)
    (hQ : ∀ h', Heap.ExtBut it s.heap h' → Q none { s with heap := h' }) : wpAny (model prog w) A (pyNext (.ref e)) Q E s := by
  have hT : s.TypeIs (.ref e) "enumerate" := ⟨_, he, rfl⟩
  have hh1 : A.in1.handled = none := hh
  unfold pyNext
  refine wpAny_bind (wpAny_attempt (wpAny_callSpecial?_slot (name := Str.ofString "__next__") hT F.slot_enumerate_next
    (wpAny_call_entry F.slot_enumerate_next hT F.entry_enumerate_next ?_ (F.args_enumerate_next_1 _))))
  show wpAny _ _ (field (.ref e) 2 >>= _) _ _ _
  refine wpAny_bind (wpAny_field he rfl (x := .ref it) rfl ?_)
  refine wpAny_bind (wpAny_nextOf_tuple_end hh1 hit hl hx fun h' x he' hx' => ?_)
  obtain ⟨o, ho, hc⟩ := hx'
  refine wpAny_bind (wpAny_isInstance (T := "StopIteration") (b := true) ⟨o, ho, hc⟩ isSubtype_stop ?_)
  exact wpAny_pure (hQ _ he')
theorem call_enumT {l : Addr} {items : Array Value} {Q : Value → Shared → Prop} (hL : s.heap.IsTuple l items)
    (h : ∀ h', IsEnum h' (s.heap.objs.size + 1) s.heap.objs.size 0 .none → h'.IsTupleIter s.heap.objs.size l 0 → h'.objs.size = s.heap.objs.size + 2 →
      (∀ b o, s.heap.get? b = some o → h'.get? b = some o) → Q (.ref (s.heap.objs.size + 1)) { s with heap := h' }) :
    wpAny (model prog w) A (call (.type "enumerate") [.ref l]) Q E s := by
  refine callType_new F.called_enumerate (by decide) (F.typeCall_enumerate_1 _) (F.newCall_enumerate_1 _) (fun obj => F.args_object_init_2 obj _) F.entry_enumerate_new
    (meets_enum_newT l items) ⟨hL, ?_⟩
  have hz : (s.heap.push { cls := .type "tuple_iterator", data := .fields #[.ref l, .int 0 0] }).objs.size = s.heap.objs.size + 1 := Heap.size_push ..
  show _ ∧ _
  rw [hz]
  have he : IsEnum ((s.heap.push { cls := .type "tuple_iterator", data := .fields #[.ref l, .int 0 0] }).push
      { cls := .type "enumerate", data := .fields #[.none, .bool false, .ref s.heap.objs.size, rawInt 0, .none, .none] }) (s.heap.objs.size + 1) s.heap.objs.size 0 .none := by
    have := Heap.get?_push_size (s.heap.push { cls := .type "tuple_iterator", data := .fields #[.ref l, .int 0 0] })
      (o := { cls := .type "enumerate", data := .fields #[.none, .bool false, .ref s.heap.objs.size, rawInt 0, .none, .none] }) rfl
    rw [hz] at this; exact this
  refine ⟨⟨_, he, rfl⟩, h _ he ⟨_, Heap.get?_push_of_some _ (Heap.get?_push_size _ rfl), rfl, rfl⟩ (by rw [Heap.size_push, hz]) fun b o x => Heap.get?_push_of_some _ (Heap.get?_push_of_some _ x)⟩
end
/-- the tuple at a as it stands at each turn, each item in a new pair -/
def IteT (K : PySem.W.Frag) (a : Addr) : It :=
  ⟨fun i H => ∃ (xs : List V) (x : V), SqT K H a xs ∧ xs[i]? = some x, fun i H v H' => ∃ T x, v = .ref T ∧ H T = none ∧ H' = upd H T (.tup [.int (i : Nat), x]) ∧ ∀ xs, SqT K H a xs → xs[i]? = some x, fun i H => ∃ xs : List V, SqT K H a xs ∧ xs.length ≤ i⟩
theorem turn_enumT {P : Program} {w : World} {K : PySem.W.Frag} {elts : List Expr} {kk : Nat} {tpos : Pos} (a e it : Addr) :
    Turn P w K (.Tuple elts kk tpos) (IteT K a) [e, it] e (fun i h => (∃ old, IsEnum h e it ((i : Nat) : Int) old) ∧ h.IsTupleIter it a i ∧ e ≠ it ∧ e ≠ a ∧ a ≠ it) where
  mem := by simp
  obj := fun i h st b hb => by
    obtain ⟨⟨old, he⟩, ⟨o, ho, hc, hd⟩, _⟩ := st
    have e' : b = e ∨ b = it := by simpa using hb
    rcases e' with z | z
    · rw [z]; exact ⟨_, he, fun v q => nomatch q⟩
    · rw [z]; exact ⟨o, ho, fun v q => by rw [hd] at q; cases q⟩
  keep := fun i h h' st k => let ⟨⟨old, he⟩, hi, hne⟩ := st; ⟨⟨old, k e (by simp) _ he⟩, hi.at fun o q => k it (by simp) o q, hne⟩
  item := by
    intro X hP hw hK hc i pins s σ H E I hf st hg
    subst hP hw hK
    obtain ⟨⟨old, he⟩, hit, hne, hea, hai⟩ := st
    obtain ⟨xs, x, hq, hx⟩ := hg
    obtain ⟨its, rv, p, hz⟩ := I.tuple hq
    obtain ⟨u, hu, ru⟩ := rv.get hx
    have hel : e < s.heap.objs.size := Heap.lt_size he
    have hil : it < s.heap.objs.size := by obtain ⟨_, q, _⟩ := hit; exact Heap.lt_size q
    have hh : X.A.in1.handled = none := I.ok.hd hc
    have hlt : i < its.toArray.size := by
      have := (List.getElem?_eq_some_iff.mp hu).1
      simpa using this
    refine wpAny_pyNext_enum_itemC (Draws.tuple hh it a hai its.toArray) he ⟨hit, p⟩ hlt hne (by simp [hne, hea]) fun x' h' tk hP ho hst' hT hsz hk => ?_
    have ex' : x' = u := by
      have : its.toArray[i]? = some u := by simpa using hu
      rw [this] at hP; cases hP; rfl
    subst ex'
    refine ⟨_, rfl, wpAny_letOwnedTupleGo_enum (s := { s with heap := h', toks := tk + 1 }) ho fun h'' he' sb => ?_⟩
    have hT2 : h''.get? s.heap.objs.size = some { cls := .type "tuple", data := .seq #[.int i tk, x'] } := (sb.2 _ (Nat.ne_of_gt hel)).trans hT
    have new : ObjOk X.prog X.w (upd H s.heap.objs.size (.tup [.int (i : Nat), x])) h'' s.heap.objs.size (.tup [.int (i : Nat), x]) :=
      ⟨by show 2 ≤ sizeLine; decide, [.int i tk, x'], .cons ⟨_, rfl⟩ (.cons ru .nil), ⟨_, hT2, rfl, _, rfl⟩⟩
    have I1 : Inv X pins σ (upd H s.heap.objs.size (.tup [.int (i : Nat), x])) { s with heap := h'', toks := tk + 1 } :=
      I.turnedNew (t' := tk + 1) (ch := [e, it]) (fun b ob hb q => (sb.2 b (fun z => hb (by simp [z]))).trans (hk b ob (fun z => hb (by simp [z])) (fun z => hb (by simp [z])) q)) hf (Nat.le_refl _) new
    refine ⟨.ref s.heap.objs.size, _, I1, rfl, ⟨_, x, rfl, I.hok.fresh (Nat.le_refl _), rfl, fun ys hy => by rw [I.tuple_inj hy hq]; exact hx⟩, ⟨⟨x', ?_⟩, hst'.1.at fun o q => (sb.2 it (Ne.symm hne)).trans q, hne, hea, hai⟩, fun b hb => ?_⟩
    · have e1 : ((i + 1 : Nat) : Int) = (i : Int) + 1 := by omega
      rw [e1]; exact he'
    · have hb' : b < s.heap.objs.size := by
        have e' : b = e ∨ b = it := by simpa using hb
        rcases e' with z | z
        · rw [z]; exact hel
        · rw [z]; exact hil
      rw [upd_ne (Nat.ne_of_lt hb')]
      exact (hf b hb).1
  done := by
    intro X hP hw hK hc i pins s σ H E I hf st hg
    subst hP hw hK
    obtain ⟨⟨old, he⟩, hit, hne, hea, hai⟩ := st
    obtain ⟨xs, hq, hx⟩ := hg
    obtain ⟨its, rv, p, hz⟩ := I.tuple hq
    obtain ⟨f0, f1, f2, f3, f4, f5⟩ := hf it (by simp)
    have hl := rv.length
    have hh : X.A.in1.handled = none := I.ok.hd hc
    refine wpAny_pyNext_enum_endT (I.ok.hd hc) he hit p (by simp; omega) fun h' eb => ⟨rfl, I.turned (t' := s.toks) (fun b o hb q => eb b o hb q) f0 f1 f3 f4 f5⟩
  self := fun A i s Q E st h => let ⟨⟨_, he⟩, _⟩ := st; wpAny_pyIter_enum he h
def iEnumA (K : PySem.W.Frag) (ta : TA) : TI := fun σ H R => ta σ H fun vs H1 => ∃ a xs, vs = [.ref a] ∧ ((SqL K H1 a xs ∧ R (Ite K a) H1) ∨ (SqT K H1 a xs ∧ R (IteT K a) H1))
theorem pi_enumA {X : Cx} {e : Expr} {ta : TA} {p pos tpos : Pos} {elts : List Expr} {kk : Nat} (hg : Gl X "enumerate") (hm : X.mg "enumerate" = none) (ha : PA X [e] ta) (hs : starEach [e] X.env = [(false, eval e X.env)]) :
    PI X (.Tuple elts kk tpos) (.Call (.Name "enumerate" p) [e] [] pos) (iEnumA X.K ta) := by
  refine ⟨fun pins s σ H R I h => ?_⟩
  refine Call_ (ld_blt I hg hm boot_enumerate (PyProof.Rows.callWith_type1 (thn (ha.run pos pins s σ H _ I h) fun us s1 ⟨vs, H1, I1, r1, q1⟩ => ?_) hs rfl))
  obtain ⟨a, xs, ex, hq⟩ := q1
  subst ex
  have fr : ∀ b ∈ [s1.heap.objs.size + 1, s1.heap.objs.size], FpOk X pins H1 b := fun b hb => by
    have e' : b = s1.heap.objs.size + 1 ∨ b = s1.heap.objs.size := by simpa using hb
    have hle : s1.heap.objs.size ≤ b := by
      rcases e' with z | z
      · rw [z]; exact Nat.le_add_right _ _
      · rw [z]; exact Nat.le_refl _
    exact I1.fpOk hle (I1.hok.fresh hle)
  cases r1 with
  | cons r rr =>
    cases rr
    cases r
    rcases hq with ⟨hq, q⟩ | ⟨hq, q⟩
    · obtain ⟨its, rv, p', hz⟩ := I1.list hq
      refine call_enumerate_list p'.isList fun h' he hit hsz hk => wpAny_pyIter_enum he ?_
      have I2 : Inv X pins σ H1 { s1 with heap := h' } := I1.kept (t' := s1.toks) hk
      exact ⟨s1.heap.objs.size + 1, [s1.heap.objs.size + 1, s1.heap.objs.size], _, _, H1, rfl, I2, turn_enum a (s1.heap.objs.size + 1) s1.heap.objs.size, ⟨⟨.none, he⟩, hit, Nat.succ_ne_self _⟩, fr, q⟩
    · obtain ⟨its, rv, p', hz⟩ := I1.tuple hq
      obtain ⟨ob, hob, _⟩ := id p'
      have hal : a < s1.heap.objs.size := Heap.lt_size hob
      refine call_enumT (show s1.heap.IsTuple a its.toArray from p') fun h' he hit hsz hk => wpAny_pyIter_enum he ?_
      have I2 : Inv X pins σ H1 { s1 with heap := h' } := I1.kept (t' := s1.toks) hk
      have n1 : s1.heap.objs.size + 1 ≠ a := fun e => by have : a < s1.heap.objs.size := hal; rw [← e] at this; exact absurd this (Nat.not_lt.mpr (Nat.le_add_right _ _))
      have n2 : a ≠ s1.heap.objs.size := Nat.ne_of_lt hal
      exact ⟨s1.heap.objs.size + 1, [s1.heap.objs.size + 1, s1.heap.objs.size], _, _, H1, rfl, I2, turn_enumT a (s1.heap.objs.size + 1) s1.heap.objs.size, ⟨⟨.none, he⟩, hit, Nat.succ_ne_self _, n1, n2⟩, fr, q⟩
section
variable {g : Gx} {W : WX} {fns : Fns} {X : Cx}
theorem ItR.enumT {G : Gh} {F : Addr → Prop} {β : List Addr} {H : Hp} {a : Addr} {us : List V} {xs : List D} (sa : SqT G.K H a us) (ra : RepAll G F β H us xs) :
    ItR G F β H (IteT G.K a) (enumD 0 xs) := by
  have inj : ∀ {F' : Addr → Prop} {β' : List Addr} {H' : Hp}, True := trivial
  refine ⟨fun F' β' H' k i d hi => ?_, fun F' β' H' k => ?_⟩
  · obtain ⟨d1, e1, rfl⟩ := enumD_get _ _ _ _ hi
    obtain ⟨v1, ev1, rv1⟩ := (RepAll.keep k ra).get e1
    have sa' := k.t a _ sa
    refine ⟨⟨us, v1, sa', ev1⟩, fun y H'' hy => ?_⟩
    obtain ⟨T, x, rfl, hT, rfl, q1⟩ := hy
    have := q1 us sa'; rw [ev1] at this; cases this
    refine ⟨same_new hT, ?_⟩
    rw [Nat.zero_add]
    exact tup_new hT (.cons (.int _) (.cons rv1 .nil))
  · refine ⟨us, k.t a _ sa, ?_⟩
    rw [enumD_length, ra.length]
    exact Nat.le_refl _
def evEnumA (fa : SemA) : SemI := fun c vs bx => (fa c vs bx).bind fun r => match r.ds with
  | [.lst xs] => .ok ⟨enumD 0 xs, r.l, r.bx⟩
  | [.tup xs] => .ok ⟨enumD 0 xs, r.l, r.bx⟩
  | _ => .stuck
theorem evEnumA_imp (hK : X.K = g.K) {fa : SemA} {σ : L2.St} {H : Hp} {R : It → Hp → Prop} (h : tEvI g W fns (evEnumA fa) σ H R) : iEnumA X.K (tEvAS g W fns fa) σ H R := by
  obtain ⟨b, F, β, vs, bx, RS, h⟩ := h
  change AskI g W vs σ F β H R _ at h
  unfold evEnumA at h
  refine ⟨b, F, β, vs, bx, RS, ?_⟩
  cases e : fa fns vs bx with
  | stuck => rw [e] at h; exact h
  | exc x bx1 => rw [e] at h; exact h
  | ok r =>
    rw [e, bind_ok] at h
    intro xs F1 β1 H1 s1 ra
    rw [hK]
    split at h
    · rename_i ds hd
      rw [hd] at ra
      cases ra with
      | cons a ra =>
        cases ra
        cases a with
        | lst sa fa ra => exact ⟨_, _, rfl, .inl ⟨.of sa, h _ F1 β1 H1 s1 (ItR.enum sa fa ra)⟩⟩
    · rename_i ds hd
      rw [hd] at ra
      cases ra with
      | cons a ra =>
        cases ra
        cases a with
        | tup sa ra => exact ⟨_, _, rfl, .inr ⟨sa, h _ F1 β1 H1 s1 (ItR.enumT sa ra)⟩⟩
    · exact h.elim
end
end Pv

/-! Pv.Y: a lambda handed to a def that calls it. -/
namespace Pv
open L2 PySem PyProof.Rows PySem.Spec
abbrev lmN (q : Str) : Str := q ++ "<lambda>"
/-- the heap behind the making of a lambda: as before, or with one code object more -/
def LamH (P : Addr) (q : Str) (H H1 : Hp) : Prop :=
  H1 = H ∨ ∃ (p0 ps : Array Value) (n : Addr), H P = some (.tbl p0) ∧ H n = none ∧ H1 = upd (upd H P (.tbl ps)) n (LamX.CodeO n q)
theorem codeO_nt {c : Addr} {q : Str} : ¬ isT (LamX.CodeO c q) := fun z => z
theorem LamH.at_ {P : Addr} {q : Str} {H H1 : Hp} (l : LamH P q H H1) {a : Addr} {o : HO} (e : H a = some o) : H1 a = some o ∨ (isT o ∧ ∃ ps, H1 a = some (.tbl ps)) := by
  rcases l with rfl | ⟨p0, ps, n, hP, hn, rfl⟩
  · exact .inl e
  · rw [upd_ne (ne_of_none e hn)]
    by_cases z : a = P
    · subst z
      rw [hP] at e; cases e
      exact .inr ⟨trivial, ps, upd_same⟩
    · rw [upd_ne z]; exact .inl e
theorem LamH.nt {P : Addr} {q : Str} {H H1 : Hp} (l : LamH P q H H1) {a : Addr} {o : HO} (e : H a = some o) (t : ¬ isT o) : H1 a = some o := (l.at_ e).elim id fun z => absurd z.1 t
theorem LamH.tabs {P : Addr} {q : Str} {H H1 : Hp} (l : LamH P q H H1) {T : List (Addr × Str)} (t : LamX.Tabs T H) (u : ∀ p ∈ T, p.1 = P → p.2 = q) (tp : LamX.TabS H1 P q) : LamX.Tabs T H1 := fun p hp => by
  by_cases z : p.1 = P
  · rw [u p hp z, z]; exact tp
  · obtain ⟨ps, h1, h2, h3⟩ := t p hp
    refine ⟨ps, ?_, h2, fun pos cv hc => ?_⟩
    · rcases l with rfl | ⟨p0, ps', n, hP, hn, rfl⟩
      · exact h1
      · rw [upd_ne (ne_of_none h1 hn), upd_ne z]; exact h1
    · obtain ⟨c, e1, e2⟩ := h3 pos cv hc
      exact ⟨c, e1, l.nt e2 codeO_nt⟩
section
variable {X : Cx} {pins : List (Addr × Obj)} {σ : L2.St} {H : Hp} {s : Shared}
theorem lamH_make {cc P : Addr} {params : Arguments} {body : Expr} {scope : Scope} {pos : Pos} {E Q : Value → Shared → Prop} (I : Inv X pins σ H s) (TB : LamX.TabB X.base X.mg cc P) (hcode : X.env.code = .ref cc)
    (tb : LamX.TabS H P (lmN X.env.qual)) (hdef : defaultsOf params X.env = ([], [])) (hfree : ∀ y ∈ scope.names, y.2 = .free → ∃ c, X.env.cells.lookup y.1 = some c)
    (done : ∀ (fn nc : Addr) (pmv ct : Value) (H1 : Hp) (s1 : Shared), Inv X pins σ H1 s1 → LamH P (lmN X.env.qual) H H1 → LamX.TabS H1 P (lmN X.env.qual) →
      s1.heap.get? fn = some (PySem.W.kla_obj "<lambda>" (lmN X.env.qual) params body scope (cloFrom X.env.cells scope.names []) pmv nc ct) → H1 fn = none → fn ∉ frs X.stack → H1 nc = some (LamX.CodeO nc (lmN X.env.qual)) → Q (.ref fn) s1) :
    wpAny (model X.prog X.w) X.A (eval (.Lambda params body scope pos) X.env) Q E s := by
  obtain ⟨arr, hP, tri, am⟩ := tb
  have hPh : s.heap.get? P = some { cls := .none, data := .fields arr } := I.hok P _ hP
  have out : ∀ fn, s.heap.objs.size ≤ fn → fn ∉ frs X.stack := fun fn hfn z => by
    rcases List.mem_cons.mp (I.stkSub _ z) with e | e
    · have h1 := I.lt
      rw [← e] at h1
      exact absurd (Nat.lt_of_lt_of_le h1 hfn) (Nat.lt_irrefl _)
    · exact I.nofs hfn e
  refine PySem.W.kla_eval hdef ?_
  cases hc : codeAmong pos arr.toList with
  | some cv =>
    obtain ⟨nc, e, hco⟩ := am pos cv hc
    subst e
    refine PySem.W.kla_makeFunctionHit (c := cc) (P := P) (mg := X.mg) (ps := arr) (closure_ok hfree) I.ok.glob (I.mod.glob.keeps I.bk) hcode (TB.code.keeps I.bk) hPh tri hc (TB.bm.keeps I.bk) fun ct h' tk kp sz => ?_
    exact done h'.objs.size nc ((X.mg "__name__").getD .none) ct H _ (I.kept fun b o e => Heap.get?_push_of_some _ (kp b o e)) (.inl rfl) ⟨arr, hP, tri, am⟩ (Heap.get?_push_size _ rfl) (I.hok.fresh sz) (out _ sz) hco
  | none =>
    refine PySem.W.kla_makeFunction (c := cc) (P := P) (mg := X.mg) (ps := arr) (closure_ok hfree) I.ok.glob (I.mod.glob.keeps I.bk) hcode (TB.code.keeps I.bk) hPh tri hc TB.gP (TB.bm.keeps I.bk) fun nc ct h' tk kp ge lt rec tb' => ?_
    obtain ⟨nc2, oc, vs, t, e2, hoc, hd, hv⟩ := rec
    cases e2
    have sz : s.heap.objs.size ≤ h'.objs.size := by omega
    have nC : H nc = none := I.hok.fresh ge
    have I1 := LamX.inv_table (q := lmN X.env.qual) (t' := tk) (more := #[rawInt pos.line, rawInt pos.col, .ref nc]) I hP (fun b o hb e => Heap.get?_push_of_some (PySem.W.kla_obj "<lambda>" (lmN X.env.qual) params body scope (cloFrom X.env.cells scope.names []) ((X.mg "__name__").getD .none) nc ct) (kp b o hb e))
      (Heap.get?_push_of_some _ tb') ge ⟨oc, vs, t, Heap.get?_push_of_some _ hoc, hd, hv⟩
    have L : LamH P (lmN X.env.qual) H (upd (upd H P (.tbl (arr ++ #[rawInt pos.line, rawInt pos.col, .ref nc]))) nc (LamX.CodeO nc (lmN X.env.qual))) := .inr ⟨arr, _, nc, hP, nC, rfl⟩
    have eL : (arr ++ #[rawInt pos.line, rawInt pos.col, .ref nc]).toList = arr.toList ++ [rawInt pos.line, rawInt pos.col, .ref nc] := by simp
    refine done h'.objs.size nc ((X.mg "__name__").getD .none) ct _ _ I1 L ⟨_, by rw [upd_ne (ne_of_none hP nC), upd_same], by rw [eL]; exact PySem.TriplesOk_snoc _ _ _ _ tri, fun p' cv hcv => ?_⟩ (Heap.get?_push_size _ rfl) ?_ (out _ sz) upd_same
    · rw [eL] at hcv
      rcases LamX.among_app _ tri hcv with z | z
      · obtain ⟨c0, e1, e2⟩ := am p' cv z
        exact ⟨c0, e1, L.nt e2 codeO_nt⟩
      · exact ⟨nc, z, upd_same⟩
    · have n2 : h'.objs.size ≠ P := Nat.ne_of_gt (Nat.lt_of_lt_of_le (Heap.lt_size hPh) sz)
      rw [upd_ne (Nat.ne_of_gt lt), upd_ne n2]
      exact I.hok.fresh sz
/-- x(lambda: body): TT, what the def x makes of a reading of the body -/
def tLamH (T : List (Addr × Str)) (P : Addr) (q : Str) (TT : (XK → Hp → VK → Prop) → Hp → VK → Prop) (t : XK → TE) : TE :=
  fun σ H Q => LamX.Tabs T H ∧ ∀ H1, LamH P q H H1 → LamX.Tabs T H1 → TT (fun E H' Q' => t E σ H' Q') H1 Q
/-- the context of a lambda's body; exceptions raised in it bear no context -/
def lamN (X : Cx) (A : Around) (outer : List Env) (s : Shared) (H : Hp) (E : XK) (scope : Scope) (fn nc : Addr) : Cx :=
  (LamX.lamCx X A outer s H E scope fn nc).wish fun e s1 => wpAny (model X.prog X.w) (A.deeper (LamX.lamEnv X scope s.heap.objs.size fn nc)) (leaving (LamX.lamEnv X scope s.heap.objs.size fn nc) e)
    (fun _ s2 => L2N.CX X.prog X.w outer H s E e s2) (fun e2 s2 => L2N.CX X.prog X.w outer H s E e2 s2) s1
/-- the context of the def that got the lambda -/
abbrev getC (X : Cx) (Ng : List Str) (x : Str) (sg : Scope) (g : Addr) (cdg : Value) (s : Shared) (H : Hp) : Cx := cxOf C8.CX0 X.prog X.w X.K X.mg X.base Ng x sg g cdg X.A X.stack s H C8.E0
/-- x() in the def that got the lambda -/
theorem pe_actN {Ng : List Str} {qg : Str} {sg : Scope} {g fn nc : Addr} {cdg pmv ctv : Value} {params : Arguments} {body : Expr} {scope : Scope} {k i : Nat} {a : Str} {pn : List (Addr × Obj)} {xe : Value → Shared → Prop} {W : WX} {E : XK} {tb : TE} {p1 p2 : Pos}
    (I : Inv X pins σ H s) (L : LamX.LamS X.env.scope scope) (hf : s.heap.get? fn = some (PySem.W.kla_obj "<lambda>" (lmN X.env.qual) params body scope (cloFrom X.env.cells scope.names []) pmv nc ctv)) (hfn : H fn = none) (hfr : fn ∉ frs X.stack)
    (hbind : bindArgs (PySem.W.kla_fn "<lambda>" (lmN X.env.qual) params body scope (cloFrom X.env.cells scope.names []) pmv (.ref nc) ctv) ⟨[], []⟩ = pure [])
    (tk : L2N.Takes ((getC X Ng qg sg g cdg s H).tr pn xe) W) (hW : ∀ cls d (σ1 : L2.St) H1, σ1.length = Ng.length → E cls d H1 → W cls d σ1 H1) (hr : Room (k + 1) (X.A.deeper (envOfC qg sg s.heap.objs.size g cdg)))
    (hbody : ∀ (A : Around) (outer : List Env) (s : Shared) (H : Hp), Room k (A.deeper (LamX.lamEnv X scope s.heap.objs.size fn nc)) → PE (lamN X A outer s H E scope fn nc) body tb)
    (hN : Ng[i]? = some a) (hv : Vis sg a) (hd : (a == ("__debug__" : Str)) = false) (hcd : (a == ("__classdict__" : Str)) = false) :
    PE ((getC X Ng qg sg g cdg s H).tr pn xe) (.Call (.Name a p1) [] [] p2) (fun σ2 H2 Q => σ2[i]? = some (some (.ref fn)) ∧ H2 nc = some (LamX.CodeO nc (lmN X.env.qual)) ∧ tb σ H2 Q) := by
  refine ⟨fun pins2 s2 σ2 H2 Q I2 ⟨hs, hc, ht⟩ => ?_⟩
  refine wpAny_Call_Name_kw (thn ((pe_var (pos := p1) (i := i) hN hv hd hcd).run pins2 s2 σ2 H2 (fun v H1 => v = .ref fn ∧ H1 = H2) I2 ⟨.ref fn, hs, rfl, rfl⟩) fun u s1 ⟨v, H1, I1, r1, e1, e2⟩ => ?_)
  rw [e1] at r1
  rw [e2] at I1
  obtain rfl : u = Value.ref fn := r1
  have lk := I1.base.keep fn _ hf hfn hfr (fun z => nomatch (show fn ∈ ([] : List Addr) from z))
  refine PySem.W.callWith_F0 ⟨_, _, _, _, lk⟩ ?_
  have un : Un (frs X.stack) [] H H2 s.heap s1.heap := I1.base
  obtain ⟨⟨oc, vs, t, hoc, hdc, hvc⟩, _, _⟩ := I1.hok nc _ hc
  have rc : codeAny (model X.prog X.w) (X.A.deeper (envOfC qg sg s.heap.objs.size g cdg)) (.call (.ref fn) ⟨[], []⟩) (CR (L2N.CX X.prog X.w) (envOfC qg sg s.heap.objs.size g cdg :: X.stack) X.prog X.w H2 s1 Q E) s1 := by
    refine PySem.W.kla_callFunE hr.depth lk rfl L.co L.gen rfl ⟨nc, oc, vs, t, rfl, hoc, hdc, hvc⟩ ?_
    rw [hbind]
    refine wpAny_pure (wpAny_newFunctionEnv (fun y hy => (L.own y hy).2) (fun y hy => absurd hy (by simp)) (fun h₁ hns hsb => ⟨I1.nolimit.fresh _ hsb, ?_⟩) L.kind)
    show codeAny _ _ (.expr body (LamX.lamEnv X scope s1.heap.objs.size fn nc)) _ _
    have J0 := LamX.lam_start2 (E := E) I L I1.env0 hr.hd un hns (fun b o e => hsb.extBut b o (Nat.ne_of_lt (Heap.lt_size e)) (Heap.get?_push_of_some _ e))
      (A := X.A.deeper (envOfC qg sg s.heap.objs.size g cdg)) (f := fn) (c' := nc) (scope := scope) (tk := s1.toks + ([] : List (Str × Value)).length) (outer := envOfC qg sg s.heap.objs.size g cdg :: X.stack)
    have J : Inv (lamN X (X.A.deeper (envOfC qg sg s.heap.objs.size g cdg)) (envOfC qg sg s.heap.objs.size g cdg :: X.stack) s1 H2 E scope fn nc) [] σ H2 { s1 with heap := h₁, toks := s1.toks + ([] : List (Str × Value)).length } := J0.wish _
    refine PySem.W.kla_codeExpr (wpAny_mono ((hbody _ _ s1 H2 (hr.deeper _)).run [] _ _ H2 Q J ht) (fun v s3 hq => ?_) fun e s3 hq => hq)
    obtain ⟨v1, H3, J3, rv, q⟩ := hq
    exact ⟨v1, H3, J3.os, J3.bare, J3.base, J3.hok, rv, q⟩
  refine wpAny_call (codeAny_mono rc fun r s3 hq => ?_)
  cases r with
  | error e => exact tk e s3 (L2N.XE.of_call I1 (fun cls d H' h => hW cls d σ2 H' I1.len h) hq)
  | ok fl =>
    cases fl with
    | ret u => exact I1.after hq
    | next => exact False.elim hq
    | brk => exact False.elim hq
    | cont => exact False.elim hq
/-- the def x that calls what it got: TT, what it makes of the reading tl of that call -/
def GivesN (X : Cx) (Ng : List Str) (x : Str) (sg : Scope) (g : Addr) (cdg : Value) (bg : List Stmt) (a q : Str) (TT : (XK → Hp → VK → Prop) → Hp → VK → Prop) : Prop :=
  ∀ (fn nc : Addr) (s : Shared) (H : Hp) (Q : VK) (tl : XK → Hp → VK → Prop),
    (∀ (W : WX) (pn : List (Addr × Obj)) (xe : Value → Shared → Prop) (E : XK) (p1 p2 : Pos), L2N.Takes ((getC X Ng x sg g cdg s H).tr pn xe) W → (∀ cls d (σ1 : L2.St) H1, σ1.length = Ng.length → E cls d H1 → W cls d σ1 H1) →
      PE ((getC X Ng x sg g cdg s H).tr pn xe) (.Call (.Name a p1) [] [] p2) (fun σ2 H2 Q2 => σ2[0]? = some (some (.ref fn)) ∧ H2 nc = some (LamX.CodeO nc q) ∧ tl E H2 Q2)) →
    H nc = some (LamX.CodeO nc q) → TT tl H Q → ∃ t, PSs (getC X Ng x sg g cdg s H).nox bg t ∧ t { nx := fun _ H1 => Q .non H1, rt := Q } (L2.start Ng [.ref fn]) H
/-- what is known of the def x that calls what it got -/
structure HdF (X : Cx) (Ng : List Str) (x a : Str) (g : Addr) (sg : Scope) (bg : List Stmt) (cdv : Value) (q : Str) (TT : (XK → Hp → VK → Prop) → Hp → VK → Prop) : Prop where
  ex : ∃ (pg : Arguments) (dV kV doc pm ct oc : Value) (an od : Option Addr) (osl : Array (Option Value)), X.K.lookup g = some ⟨oc, od, .func (PySem.W.fnOf x x pg bg sg dV kV doc pm an cdv ct), osl⟩ ∧ L2.Binds X.K (PySem.W.fnOf x x pg bg sg dV kV doc pm an cdv ct) [a] []
  m : X.mg x = some (.ref g)
  kp : PySem.W.keepIn X.K (.ref g) = true
  cd : PySem.W.codeIn X.K cdv x = true
  sc : FnScope Ng [a] sg
  n0 : Ng[0]? = some a
  va : Vis sg a
  db : (a == ("__debug__" : Str)) = false
  cl : (a == ("__classdict__" : Str)) = false
  gives : GivesN X Ng x sg g cdv bg a q TT
theorem pe_lamH {T : List (Addr × Str)} {TT : (XK → Hp → VK → Prop) → Hp → VK → Prop} {x a : Str} {g cc P : Addr} {k : Nat} {bg : List Stmt} {sg : Scope} {cdv : Value} {Ng : List Str} {params : Arguments} {body : Expr} {scope : Scope} {t : XK → TE} {p lpos pos : Pos}
    (hg : Gl X x) (F : HdF X Ng x a g sg bg cdv (lmN X.env.qual) TT) (TB : LamX.TabB X.base X.mg cc P) (hcode : X.env.code = .ref cc) (inT : (P, lmN X.env.qual) ∈ T) (uT : ∀ p ∈ T, p.1 = P → p.2 = lmN X.env.qual) (hr : Room (k + 2) X.A) (L : LamX.LamS X.env.scope scope)
    (hdef : defaultsOf params X.env = ([], [])) (hbind : ∀ (q : Str) (cl : List (Str × Addr)) (pm cv ctv : Value), bindArgs (PySem.W.kla_fn "<lambda>" q params body scope cl pm cv ctv) ⟨[], []⟩ = pure [])
    (hbody : ∀ (A : Around) (outer : List Env) (s : Shared) (H : Hp) (E : XK) (f c' : Addr), Room k (A.deeper (LamX.lamEnv X scope s.heap.objs.size f c')) → PE (lamN X A outer s H E scope f c') body (t E))
    (hdb : (x == ("__debug__" : Str)) = false) : PE X (.Call (.Name x p) [.Lambda params body scope lpos] [] pos) (tLamH T P (lmN X.env.qual) TT t) := by
  refine ⟨fun pins s σ H Q I ⟨tabs, h⟩ => ?_⟩
  obtain ⟨pg, dV, kV, doc, pm, ct, oc, an, od, osl, lk, hb⟩ := F.ex
  refine wpAny_Call_Name_kw (ld_glob I hg F.m ?_ hdb)
  refine PySem.W.callWith_K (h₀ := X.base) I.ok.mod.kin F.kp ?_ (by rfl) (by rfl)
  show wpAny _ _ (spliced ((false, eval (.Lambda params body scope lpos) X.env) :: backTo pos (starEach [] X.env))) _ _ s
  refine Calls.spliced_cons (lamH_make I TB hcode (tabs _ inT) hdef (L.has I.ok) fun fn nc pmv ctv H1 s1 I1 lH tP hf hfn hfr hco => ?_)
  refine Calls.spliced_nil ⟨I1.kIn, ?_⟩
  have asked := h H1 lH (lH.tabs tabs uT tP)
  have rc : codeAny (model X.prog X.w) X.A (.call (.ref g) ⟨[.ref fn], []⟩) (CR C8.CX0 X.stack X.prog X.w H1 s1 Q C8.E0) s1 := by
    refine LamX.run_ofS (N := Ng) (ps := [a]) (us := [.ref fn]) (vs := [.ref fn]) lk F.cd F.sc hr I1.env0 (hb s1 [.ref fn] I1.kIn rfl) (.cons rfl .nil) rfl fun hr' => ?_
    obtain ⟨t1, ht1, hq1⟩ := F.gives fn nc s1 H1 Q (fun E H' Q' => t E σ H' Q')
      (fun W pn xe E p1 p2 tk hW => pe_actN (i := 0) I1 L hf hfn hfr (hbind _ _ _ _ _) tk hW hr' (fun A outer s H hr2 => hbody A outer s H E fn nc hr2) F.n0 F.va F.db F.cl) hco asked
    exact ⟨t1, ht1.nox, hq1⟩
  refine wpAny_call (codeAny_mono rc fun r s2 hq => ?_)
  cases r with
  | error e => exact (show False from hq).elim
  | ok fl =>
    cases fl with
    | ret u => exact I1.after hq
    | next => exact False.elim hq
    | brk => exact False.elim hq
    | cont => exact False.elim hq
end
end Pv

/-! Pv.Z: lists walked, tuples taken apart, list comprehensions where an exception is handled. -/
namespace Pv
open L2 PySem PyProof.Rows PySem.Spec HotX L2H
section
variable {prog : Program} {w : World} {A : Around} {E : Value → Shared → Prop} {s : Shared}
theorem listEndHot {x1 it l : Addr} {i : Nat} {items : Array Value} {Q : Option Value → Shared → Prop} (hot : HotAt A x1 s.heap) (nx : x1 ≠ it) (hit : s.heap.IsListIter it l i) (hl : s.heap.IsList l items) (over : items[i]? = none)
    (hQ : ∀ h2, Heap.ExtBut it s.heap h2 → Q none { s with heap := h2 }) : wpAny (model prog w) A (pyNext (.ref it)) Q E s := by
  obtain ⟨hh, o1, vs1, g1, d1, c1⟩ := hot
  obtain ⟨oi, gi, ci, di⟩ := id hit
  obtain ⟨ol, gl, _, nl, dl⟩ := hl
  unfold pyNext
  refine wpAny_bind (wpAny_attempt (wpAny_callSpecial?_slot (name := Str.ofString "__next__") hit.typeIs slot_listiter_next (wpAny_call_entry slot_listiter_next hit.typeIs entry_listiter_next ?_ (args_listiter_next _))))
  show wpAny _ _ (field (.ref it) 0 >>= _) _ _ s
  refine wpAny_bind (wpAny_field gi di (x := .ref l) rfl ?_)
  show wpAny _ _ (if (Value.ref l == Value.none) = true then _ else _) _ _ s
  rw [if_neg (by simp)]
  show wpAny _ _ (field (.ref it) 1 >>= _) _ _ s
  refine wpAny_bind (wpAny_field gi di (x := .int i 0) rfl (wpAny_bind (wpAny_seqItems gl dl ?_)))
  simp only [Int.toNat_natCast, over]
  refine wpAny_bind (wpAny_rule (wpAny_bind (wpAny_setField gi di (by simp) ?_)))
  show wpAny _ _ (newExc (.type "StopIteration") [] >>= _) _ _ _
  refine wpAny_bind ?_
  simp only [newExc, newTuple]
  refine wpAny_bind (wpAny_newObj_type ?_ (by size_fits))
  refine wpAny_bind (m := firstArgMember _ _) (wpAny_of_eq (a := Value.none) (by first | rfl | (simp only [firstArgMember]; rfl)) (wpAny_newObj_type ?_ (by size_fits)))
  have keep : ∀ {h0 : Heap}, h0.get? x1 = some o1 → (h0.update it (Obj.mapFields (·.setIfInBounds 0 .none))).get? x1 = some o1 := fun e => by rw [Heap.get?_update_other _ _ nx.symm]; exact e
  have g3 := Heap.get?_push_of_some ({ cls := .type "tuple", data := .seq #[] 0 } : Obj) (keep g1)
  refine raiseNew_hot (x1 := x1) ⟨hh, o1, vs1, Heap.get?_push_of_some _ (Heap.get?_push_of_some _ (keep g1)), d1, c1⟩ (Nat.ne_of_lt (Heap.lt_size (Heap.get?_push_of_some _ (keep g1)))) (Heap.get?_push_size _ rfl) rfl (by first | (simp; done) | (simp; omega) | (simp only [Array.size_append]; simp; omega)) ?_
  refine wpAny_bind (wpAny_isInstance (T := "StopIteration") (b := true) ⟨_, Heap.get?_update_self _ (Heap.get?_push_size _ rfl) rfl, rfl⟩ isSubtype_stop ?_)
  refine wpAny_pure (hQ _ fun b o hb e => ?_)
  have e1 : (s.heap.update it (Obj.mapFields (·.setIfInBounds 0 .none))).get? b = some o := by rw [Heap.get?_update_other _ _ (Ne.symm hb)]; exact e
  rw [Heap.get?_update_other _ _ (Nat.ne_of_gt (Heap.lt_size (Heap.get?_push_of_some _ e1)))]
  exact Heap.get?_push_of_some _ (Heap.get?_push_of_some _ e1)
theorem tupEndHot {x1 it l : Addr} {i : Nat} {items : Array Value} {Q : Option Value → Shared → Prop} (hot : HotAt A x1 s.heap) (nx : x1 ≠ it) (hit : IsTupIter s.heap it l i) (hl : IsTup s.heap l items) (over : items[i]? = none)
    (hQ : ∀ h2, Heap.ExtBut it s.heap h2 → Q none { s with heap := h2 }) : wpAny (model prog w) A (pyNext (.ref it)) Q E s := by
  obtain ⟨hh, o1, vs1, g1, d1, c1⟩ := hot
  obtain ⟨oi, gi, ci, di⟩ := id hit
  obtain ⟨ol, gl, _, nl, dl⟩ := hl
  unfold pyNext
  refine wpAny_bind (wpAny_attempt (wpAny_callSpecial?_slot (name := Str.ofString "__next__") hit.typeIs slot_tupleiter_next (wpAny_call_entry slot_tupleiter_next hit.typeIs entry_tupleiter_next ?_ (args_tupleiter_next _))))
  show wpAny _ _ (field (.ref it) 0 >>= _) _ _ s
  refine wpAny_bind (wpAny_field gi di (x := .ref l) rfl ?_)
  show wpAny _ _ (if (Value.ref l == Value.none) = true then _ else _) _ _ s
  rw [if_neg (by simp)]
  show wpAny _ _ (field (.ref it) 1 >>= _) _ _ s
  refine wpAny_bind (wpAny_field gi di (x := .int i 0) rfl (wpAny_bind (wpAny_seqItems gl dl ?_)))
  simp only [Int.toNat_natCast, over]
  refine wpAny_bind (wpAny_rule (wpAny_bind (wpAny_setField gi di (by simp) ?_)))
  show wpAny _ _ (newExc (.type "StopIteration") [] >>= _) _ _ _
  refine wpAny_bind ?_
  simp only [newExc, newTuple]
  refine wpAny_bind (wpAny_newObj_type ?_ (by size_fits))
  refine wpAny_bind (m := firstArgMember _ _) (wpAny_of_eq (a := Value.none) (by first | rfl | (simp only [firstArgMember]; rfl)) (wpAny_newObj_type ?_ (by size_fits)))
  have keep : ∀ {h0 : Heap}, h0.get? x1 = some o1 → (h0.update it (Obj.mapFields (·.setIfInBounds 0 .none))).get? x1 = some o1 := fun e => by rw [Heap.get?_update_other _ _ nx.symm]; exact e
  have g3 := Heap.get?_push_of_some ({ cls := .type "tuple", data := .seq #[] 0 } : Obj) (keep g1)
  refine raiseNew_hot (x1 := x1) ⟨hh, o1, vs1, Heap.get?_push_of_some _ (Heap.get?_push_of_some _ (keep g1)), d1, c1⟩ (Nat.ne_of_lt (Heap.lt_size (Heap.get?_push_of_some _ (keep g1)))) (Heap.get?_push_size _ rfl) rfl (by first | (simp; done) | (simp; omega) | (simp only [Array.size_append]; simp; omega)) ?_
  refine wpAny_bind (wpAny_isInstance (T := "StopIteration") (b := true) ⟨_, Heap.get?_update_self _ (Heap.get?_push_size _ rfl) rfl, rfl⟩ isSubtype_stop ?_)
  refine wpAny_pure (hQ _ fun b o hb e => ?_)
  have e1 : (s.heap.update it (Obj.mapFields (·.setIfInBounds 0 .none))).get? b = some o := by rw [Heap.get?_update_other _ _ (Ne.symm hb)]; exact e
  rw [Heap.get?_update_other _ _ (Nat.ne_of_gt (Heap.lt_size (Heap.get?_push_of_some _ e1)))]
  exact Heap.get?_push_of_some _ (Heap.get?_push_of_some _ e1)
/-- a tuple taken apart there -/
theorem unpackHot {x1 p : Addr} {items : Array Value} {Q : List Value → Shared → Prop} (hot : HotAt A x1 s.heap) (tup : IsTup s.heap p items)
    (hQ : ∀ h2, Heap.ExtBut s.heap.objs.size s.heap h2 → Q items.toList { s with heap := h2 }) : wpAny (model prog w) A (unpackItems (.ref p) items.size none) Q E s := by
  have np : p ≠ s.heap.objs.size := by obtain ⟨o, e, _⟩ := tup; exact Nat.ne_of_lt (Heap.lt_size e)
  have nx : x1 ≠ s.heap.objs.size := by obtain ⟨_, o, _, e, _⟩ := hot; exact Nat.ne_of_lt (Heap.lt_size e)
  unfold unpackItems
  refine wpAny_bind ?_
  · unfold notIterableAtAll
    refine wpAny_bind (wpAny_specialOf tup.typeIs slot_tuple_iter.lookup (wpAny_pure ?_))
    simp only [Bool.false_eq_true, if_false]
    refine wpAny_bind (wpAny_holding (iter_tuple tup ?_))
    refine wpAny_bind (wpAny_holding (draw_tuple np items.size 0 _ _ ⟨_, Heap.get?_push_size _ rfl, rfl, rfl⟩ (tup.push _) (by omega) fun g1 it1 sb => ?_))
    rw [show List.take items.size (List.drop 0 items.toList) = items.toList by rw [List.drop_zero]; exact List.take_of_length_le (by simp), if_neg (by simp)]
    have kp : ∀ b o, s.heap.get? b = some o → g1.get? b = some o := fun b o e => sb.extBut b o (Nat.ne_of_lt (Heap.lt_size e)) (Heap.get?_push_of_some _ e)
    have hot1 : HotAt A x1 g1 := by obtain ⟨hh, o, vs, e, d, c⟩ := hot; exact ⟨hh, o, vs, kp _ _ e, d, c⟩
    refine wpAny_bind (wpAny_holding (tupEndHot hot1 nx it1 ((tup.push _).extBut sb.extBut np) (by simp) fun g2 e2 => ?_))
    simp only [Option.isSome_none, Bool.false_eq_true, if_false]
    exact wpAny_pure (hQ g2 fun b o hb e => e2 b o hb (kp b o e))
end
/-- the context bears the exception that is handled, by pins or by itself -/
def HotP (X : Cx) (pins : List (Addr × Obj)) : Prop := ∃ p : Addr × Obj, Hot1 X.A p ∧ p ∈ X.pn ++ pins
theorem HotP.at {X : Cx} {pins : List (Addr × Obj)} {σ : L2.St} {H : Hp} {s : Shared} (c : HotP X pins) (I : Inv X pins σ H s) : ∃ x1 : Addr, HotAt X.A x1 s.heap ∧ H x1 = none ∧ ∀ b : Addr, (∀ p ∈ X.pn ++ pins, p.1 ≠ b) → x1 ≠ b := by
  obtain ⟨p, ⟨hh, v1, e1, c1⟩, hp⟩ := c
  exact ⟨p.1, ⟨hh, p.2, v1, (I.pin p hp).1, e1, c1⟩, (I.pin p hp).2.1, fun b hb => hb p hp⟩
theorem HotC.p {X : Cx} {pins : List (Addr × Obj)} (h : HotC X) : HotP X pins := by
  obtain ⟨p, a, b⟩ := h
  exact ⟨p, a, List.mem_append_left _ b⟩
section
variable {X : Cx} {pos : Pos}
theorem pg_tupH {es : List Expr} {k : Nat} {t : TGs} {n : Nat} (hc : HotC X) (h : PGs X es t) (hn : (assignEach es X.env).length = n) (hst : (assignEach es X.env).findIdx? (·.1) = none) : PG X (.Tuple es k pos) (gTup X.K n t) := by
  refine ⟨fun pins s σ H v u Q I r ⟨a, xs, e1, hq, hl, hw⟩ => ?_⟩
  subst e1
  cases r
  obtain ⟨x1, hot, _, _⟩ := (HotC.p (pins := pins) hc).at I
  obtain ⟨its, rv, tup, hz⟩ := I.tuple hq
  rw [PyProof.Rows.assign_Tuple]
  refine wpAny_bind (wpAny_standAt ?_)
  unfold unpack
  rw [show (assignEach es X.env).length = its.toArray.size by simp [hn, ← hl, rv.length], hst]
  refine wpAny_bind (wpAny_holding (unpackHot hot tup fun g1 hx => ?_))
  have I1 : Inv X pins σ H { s with heap := g1 } := I.kept (t' := s.toks) fun b o e => hx b o (Nat.ne_of_lt (Heap.lt_size e)) e
  exact h.run pins _ σ H xs _ Q I1 (by simpa using rv) hw
/-- the list at a, walked where an exception is handled -/
theorem turn_listH {P : Program} {w : World} {K : PySem.W.Frag} {tg : Expr} (a it : Addr) : TurnH P w K tg (Itl K a) [it] it (fun i h => h.IsListIter it a i) where
  mem := by simp
  obj := fun i h st b hb => by
    cases List.mem_singleton.mp hb
    obtain ⟨o, e, c, d⟩ := st
    exact ⟨o, e, fun v z => by rw [d] at z; cases z⟩
  keep := fun i h h' st k => st.at fun o e => k it (by simp) o e
  item := by
    intro X hP hw hK hc i pins s σ H E I hf st hg
    subst hP hw hK
    obtain ⟨xs, x, hq, hx⟩ := hg
    obtain ⟨its, rv, il, hz⟩ := I.list hq
    obtain ⟨u, hu, ru⟩ := rv.get hx
    obtain ⟨f0, f1, f2, f3, f4, f5⟩ := hf it (by simp)
    refine wpAny_pyNext_list_item st il.isList (x := u) (by simpa using hu) fun g1 st1 sb => ?_
    have I1 : Inv X pins σ H { s with heap := g1 } := I.turned (t' := s.toks) (fun b o hb e => (sb.2 b hb).trans e) f0 f1 f3 f4 f5
    obtain ⟨o, e, c, d⟩ := id st1
    exact ⟨u, rfl, go_of (s := { s with heap := g1 }) e c d (by decide) ⟨x, H, I1, ru, ⟨rfl, fun ys hy => by rw [I.list_inj hy hq]; exact hx⟩, st1, fun b hb => (hf b hb).1⟩⟩
  done := by
    intro X hP hw hK hc i pins s σ H E I hf st hg
    subst hP hw hK
    obtain ⟨xs, hq, hx⟩ := hg
    obtain ⟨its, rv, il, hz⟩ := I.list hq
    obtain ⟨f0, f1, f2, f3, f4, f5⟩ := hf it (by simp)
    obtain ⟨x1, hot, _, ne⟩ := (HotC.p (pins := pins) hc).at I
    have hlen := rv.length
    exact listEndHot hot (ne it f5) st il.isList (by simp; omega) fun g2 eb => ⟨rfl, I.turned (t' := s.toks) (fun b o hb e => eb b o hb e) f0 f1 f3 f4 f5⟩
  self := fun _ _ _ _ _ st h => wpAny_pyIter_listiter st h
/-- a list's items, walked there -/
theorem list_itH {pins : List (Addr × Obj)} {σ : L2.St} {H : Hp} {s : Shared} {R : It → Hp → Prop} {a : Addr} {xs : List V} {tg : Expr} {E : Value → Shared → Prop} (I : Inv X pins σ H s) (hq : SqL X.K H a xs) (q : R (Itl X.K a) H) :
    wpAny (model X.prog X.w) X.A (pyIter (.ref a)) (PIEH X pins σ tg R) E s := by
  obtain ⟨its, rv, il, hz⟩ := I.list hq
  refine wpAny_pyIter_list il.isList ⟨s.heap.objs.size, [s.heap.objs.size], _, _, H, rfl, I.kept (t' := s.toks) fun b o e => Heap.get?_push_of_some _ e, turn_listH a _, ⟨_, Heap.get?_push_size _ rfl, rfl, rfl⟩, fun b hb => ?_, q⟩
  cases List.mem_singleton.mp hb
  exact I.fpOk (Nat.le_refl _) (I.hok.fresh (Nat.le_refl _))
/-- a comprehension's block where an exception is handled: p, that exception -/
abbrev blkH (X : Cx) (s : Shared) (H : Hp) (scope : Scope) (ce : Env) (fp : List Addr) (p : Addr × Obj) : Cx := (X.blk s H scope ce fp).tr [p] fun _ _ => False
theorem pe_lcH {elt tg iter : Expr} {ifs : List Expr} {scope : Scope} {own : List (Str × Nat)} {ti : TE} {g : TG} {tt : TT} {te : TE} (hc : HotC X) (hN : X.N.Nodup) (hi : PE X iter ti) (ok : BlkOk X.N X.env.scope scope own)
    (hg : ∀ (s : Shared) (H : Hp) (C : Addr) (cl : List (Str × Addr)) (fp : List Addr) (p : Addr × Obj), Hot1 X.A p → PG (blkH X s H scope (compEnvC scope cl C X.env) fp p) tg g)
    (ht : ∀ (s : Shared) (H : Hp) (C : Addr) (cl : List (Str × Addr)) (fp : List Addr) (p : Addr × Obj), Hot1 X.A p → PTs (blkH X s H scope (compEnvC scope cl C X.env) fp p) ifs tt)
    (he : ∀ (s : Shared) (H : Hp) (C : Addr) (cl : List (Str × Addr)) (fp : List Addr) (p : Addr × Obj), Hot1 X.A p → PE (blkH X s H scope (compEnvC scope cl C X.env) fp p) elt te) (hs : ∀ x, foldedSetIterable iter X.env x = pure x) :
    PE X (.ListComp elt [⟨tg, iter, ifs, 0⟩] scope pos) (tLc (fun σ H R => ti σ H fun x H1 => ∃ a, x = .ref a ∧ (∃ xs, SqL X.K H1 a xs) ∧ R (Itl X.K a) H1) g tt te (own.map (·.2))) := by
  refine ⟨fun pins s σ H Q I0 h => ?_⟩
  obtain ⟨p, hot, hp⟩ := hc
  rw [eval_ListComp]
  have free : ∀ y ∈ scope.names, y.2 = .free → ∃ c, X.env.cells.lookup y.1 = some c := fun y hy e => I0.ok.has _ ((ok.free y hy e).imp id id)
  refine wpAny_comprehension_free (use := none) rfl hs (closure_ok free) ok.kind (fun y hy e => by rw [ok.uniq y hy, e]) (thn (hi.run pins s σ H _ I0 h) fun xv s1 ⟨x, H1, I1, r1, a, ex, ⟨xs, hq⟩, hR⟩ => ?_)
  subst ex
  cases r1
  refine thn (list_itH (tg := tg) (R := fun J H1 => ∀ D, H1 D = none → ∃ W : Nat → Nat → Hp → Prop, (∃ m, W 0 m (upd H1 D (.lst []))) ∧ ∀ i m H, W i m H →
    (J.stop i H ∧ Q (.ref D) H) ∨ (J.go i H ∧ ∃ Nx : Hp → Prop, (∀ H', Nx H' → ∃ m', m' < m ∧ W (i + 1) m' H') ∧ ∀ x H', J.yld i H x H' → g x (wipe σ (own.map (·.2))) H' fun σ2 H2 => wipe σ2 (own.map (·.2)) = wipe σ (own.map (·.2)) ∧ tt σ2 H2 fun b H3 =>
      if b = true then te σ2 H3 fun y H4 => ∃ acc, H4 D = some (.lst acc) ∧ acc.length < sizeLine ∧ Nx (upd H4 D (.lst (acc ++ [y]))) else Nx H3)) I1 hq hR) fun itv s2 ⟨it, fp, tn, J, H2, e, I2, T, st2, f2, q⟩ => ?_
  subst e
  refine wpAny_newObj_type (newEnv_comp ?_) (by show 0 ≤ sizeLine; decide)
  generalize eD : s2.heap.objs.size = D
  obtain ⟨W, ⟨m0, w0⟩, turn⟩ := q D (I2.hok.fresh (Nat.le_of_eq eD))
  generalize es3 : ({ s2 with heap := s2.heap.push { cls := .type "list", data := .seq ([] : List Value).toArray } } : Shared) = s3
  have eh : s3.heap = s2.heap.push { cls := .type "list", data := .seq ([] : List Value).toArray } := by rw [← es3]
  have I3 : Inv X pins σ (upd H2 D (.lst [])) s3 := by
    rw [← es3]
    exact I2.laid (t' := s2.toks) (fun b o e => Heap.get?_push_of_some _ e) (Nat.le_of_eq eD) ⟨Nat.zero_le _, [], 0, .nil, by rw [← eD]; exact Heap.get?_push_size _ rfl⟩
  have f3 : ∀ b ∈ fp, FpOk X pins (upd H2 D (.lst [])) b ∧ b < s3.heap.objs.size := fun b hb => by
    obtain ⟨o, e, _⟩ := T.obj _ _ st2 b hb
    have lt := Heap.lt_size e
    exact ⟨⟨by rw [upd_ne (by rw [← eD]; exact Nat.ne_of_lt lt)]; exact (f2 b hb).1, (f2 b hb).2⟩, by rw [eh, Heap.size_push]; exact Nat.lt_succ_of_lt lt⟩
  have st3 : tn 0 s3.heap := T.keep _ _ _ st2 fun b _ o e => by rw [eh]; exact Heap.get?_push_of_some _ e
  have I4 := block_start I3 ok hN f3
  have pg := hg s3 (upd H2 D (.lst [])) s3.heap.objs.size (cellsFrom (s3.heap.objs.size + 1) scope.names (cloFrom X.env.cells scope.names [])) fp p hot
  have pt := ht s3 (upd H2 D (.lst [])) s3.heap.objs.size (cellsFrom (s3.heap.objs.size + 1) scope.names (cloFrom X.env.cells scope.names [])) fp p hot
  have pe := he s3 (upd H2 D (.lst [])) s3.heap.objs.size (cellsFrom (s3.heap.objs.size + 1) scope.names (cloFrom X.env.cells scope.names [])) fp p hot
  show codeAny _ _ (.compStart (.ListComp elt [⟨tg, iter, ifs, 0⟩] scope pos) 0 (.ref it) (.ref D) (compEnvC scope (cellsFrom (s3.heap.objs.size + 1) scope.names (cloFrom X.env.cells scope.names [])) s3.heap.objs.size X.env))
    (compPost (model X.prog X.w) X.A X.xe none (EP X pins σ Q) (.ref D) s3.heap.objs.size) { s3 with heap := pushCells (s3.heap.push { cls := .type "dict", data := .dict #[] }) scope.names }
  have nfp : ∀ b ∈ fp, (upd H2 D (.lst [])) b = none := fun b hb => (f3 b hb).1.1
  obtain ⟨p1, p2, p3, p4, p5⟩ := I3.pin p (List.mem_append_left _ hp)
  have p6 : p.1 ∉ frs X.stack := fun z => (List.mem_cons.mp (I3.stkSub _ z)).elim p3 p4
  generalize ece : compEnvC scope (cellsFrom (s3.heap.objs.size + 1) scope.names (cloFrom X.env.cells scope.names [])) s3.heap.objs.size X.env = ce at I4 pg pt pe ⊢
  have cL : ce.locals = s3.heap.objs.size := by subst ece; rfl
  generalize eH3 : upd H2 D (.lst []) = H3 at I3 I4 pg pt pe w0 nfp f3 p2
  generalize es4 : ({ s3 with heap := pushCells (s3.heap.push { cls := .type "dict", data := .dict #[] }) scope.names } : Shared) = s4 at I4 ⊢
  have kp4 : ∀ b o, s3.heap.get? b = some o → s4.heap.get? b = some o := fun b o e => by rw [← es4]; exact pushCells_keeps _ _ _ _ (Heap.get?_push_of_some _ e)
  have st4 : tn 0 s4.heap := T.keep _ _ _ st3 fun b _ o e => kp4 b o e
  have I5 : Inv (blkH X s3 H3 scope ce fp p) [] (wipe σ (own.map (·.2))) H3 s4 := by
    refine (I4.pins_of (pins' := [p]) fun y hy => ?_).toTry _
    cases List.mem_singleton.mp hy
    exact ⟨kp4 _ _ p1, p2, by rw [cL]; exact Nat.ne_of_lt (Heap.lt_size p1), p6, p5⟩
  have hotC : HotC (blkH X s3 H3 scope ce fp p) := ⟨p, hot, List.mem_singleton.mpr rfl⟩
  have stat : ∀ {σ' : L2.St} {H' : Hp} {s' : Shared}, Inv (blkH X s3 H3 scope ce fp p) [] σ' H' s' → (∀ b ∈ fp, H' b = none) → ∀ b ∈ fp, FpOk (blkH X s3 H3 scope ce fp p) [] H' b := fun {σ' H' s'} I' hn b hb =>
    ⟨hn b hb, (I'.ok.exf b hb).1, I'.ok.exfs b hb, .inl hb, fun x c e => (I'.ok.exf b hb).2 x c e, fun y hy => by
      have hy : y ∈ [p] ++ ([] : List (Addr × Obj)) := hy
      rw [List.append_nil] at hy
      cases List.mem_singleton.mp hy
      exact (f3 b hb).1.2.2.2.2.2 p (List.mem_append_left _ hp)⟩
  have loop : codeAny (model X.prog X.w) X.A (.compLoop (.ListComp elt [⟨tg, iter, ifs, 0⟩] scope pos) 0 (.ref it) (.ref D) ce) (compPost (model X.prog X.w) X.A X.xe none (EP X pins σ Q) (.ref D) s3.heap.objs.size) s4 := by
    refine compLoop_any (fun n s' => ∃ i H', Inv (blkH X s3 H3 scope ce fp p) [] (wipe σ (own.map (·.2))) H' s' ∧ tn i s'.heap ∧ (∀ b ∈ fp, H' b = none) ∧ W i n H') ?_ m0 ⟨0, H3, I5, st4, nfp, w0⟩
    rintro n s5 ⟨i, H5, J5, st5, n5, w5⟩
    rcases turn i n H5 w5 with ⟨stop, qq⟩ | ⟨go, Nx, hNx, step⟩
    · refine thnF (T.done (blkH X s3 H3 scope ce fp p) rfl rfl rfl hotC i [] s5 _ H5 (fun _ _ => False) J5 (stat J5 n5) st5 stop) fun r s6 ⟨hr, J6⟩ => ?_
      subst hr
      have I7 : Inv X pins σ H5 s6 := I3.call' (ch := fp) J6.os J6.base J6.hok J6.bare fun b hb => ⟨(f3 b hb).1.2.2.2.1, (f3 b hb).1.2.1, (f3 b hb).1.2.2.2.2.1, (f3 b hb).1.2.2.2.2.2⟩
      have nC : H5 s3.heap.objs.size = none := by
        have z : H5 ce.locals = none := J6.free
        rw [cL] at z
        exact z
      obtain ⟨m, hn, _⟩ := J6.loc
      have hn : s6.heap.Ns ce.locals m := hn
      rw [cL] at hn
      obtain ⟨z0, z1, z2, z3, z4, z5⟩ := I3.fpOk (Nat.le_refl _) nC
      exact ⟨m, hn, fun g1 sb => ⟨.ref D, H5, I7.turned (t' := s6.toks) (fun b o hb e => (sb.2 b hb).trans e) z0 z1 z3 z4 z5, rfl, qq⟩⟩
    · refine thnF (T.item (blkH X s3 H3 scope ce fp p) rfl rfl rfl hotC i [] s5 _ H5 (fun _ _ => False) J5 (stat J5 n5) st5 go) fun r s6 ⟨u, hr, h6⟩ => ?_
      subst hr
      refine thnF h6 fun _ s7 ⟨x, H7, J7, r7, y7, st7, n7⟩ => ?_
      refine thnF (pg.run _ s7 _ H7 x u _ (J7.pinned (stat J7 n7) (T.obj _ _ st7)) r7 (step x H7 y7)) fun _ s8 ⟨σ8, H8, J8, hw8, q8⟩ => ?_
      refine thnF (pt.run _ s8 σ8 H8 _ J8 q8) fun b s9 ⟨H9, J9, q9⟩ => ?_
      have fin : ∀ {s' : Shared} {H' : Hp}, Inv (blkH X s3 H3 scope ce fp p) ([] ++ pinsAt fp s7.heap) σ8 H' s' → Nx H' → ∃ m, m < n ∧ ∃ i H', Inv (blkH X s3 H3 scope ce fp p) [] (wipe σ (own.map (·.2))) H' s' ∧ tn i s'.heap ∧ (∀ b ∈ fp, H' b = none) ∧ W i m H' := fun {s' H'} J' nx => by
        obtain ⟨m', hm, w'⟩ := hNx H' nx
        have pins7 : ∀ b ∈ fp, ∀ o, s7.heap.get? b = some o → s'.heap.get? b = some o ∧ H' b = none := fun b hb o e =>
          have z := J'.pin (b, o) (List.mem_append_right _ (List.mem_append_right _ (mem_pinsAt hb e)))
          ⟨z.1, z.2.1⟩
        refine ⟨m', hm, i + 1, H', (J'.unpinned (pins := [])).weak (by rw [← hw8, wipe_length]) (fun j v e => ?_), T.keep _ _ _ st7 fun b hb o e => (pins7 b hb o e).1, fun b hb => ?_, w'⟩
        · rw [← hw8] at e
          exact (wipe_some e).1
        · obtain ⟨o, e, _⟩ := T.obj _ _ st7 b hb
          exact (pins7 b hb o e).2
      cases b with
      | false =>
        simp only [Bool.false_eq_true, if_false] at q9 ⊢
        exact fin J9 q9
      | true =>
        simp only [if_true] at q9 ⊢
        refine thnF (pe.run _ s9 σ8 H9 _ J9 q9) fun z s10 ⟨yv, H10, J10, r10, acc, hD10, hz10, nx⟩ => ?_
        exact app_ok (X := blkH X s3 H3 scope ce fp p) J10 hD10 hz10 r10 fun s11 J11 => fin J11 nx
  exact codeAny_compStart_list loop (T.self X.A 0 _ _ _ st4 loop)
end
end Pv

/-! Pv.La: functions as values, lambdas handed to a def that catches, isinstance of what was caught, join. -/
namespace Pv
open L2 PySem PyProof.Rows PySem.Spec L2H

/-! ### a call of a slot that holds a def -/
def evCallV (j n : Nat) (fa : SemA) : SemE := fun c vs bx => match (vs[j]? : Option Slot) with
  | some (.val (.fn k)) => evCall k n fa c vs bx
  | _ => .stuck
section
variable {g : Gx} {W : WX} {fns : Fns} {X : Cx}
theorem tEvAS_mono {fa : SemA} {σ : L2.St} {H : Hp} {P P' : List V → Hp → Prop} (h : tEvAS g W fns fa σ H P) (i : ∀ xs H', P xs H' → P' xs H') : tEvAS g W fns fa σ H P' := by
  obtain ⟨b, F, β, vs, bx, R, h⟩ := h
  refine ⟨b, F, β, vs, bx, R, ?_⟩
  cases e : fa fns vs bx with
  | stuck => rw [e] at h; exact h
  | exc x bx1 => rw [e] at h; exact h
  | ok r => rw [e] at h; exact fun xs F' β' H' s rp => i _ _ (h xs F' β' H' s rp)
/-- the promises that a value k of kind fn may stand for -/
def SV (g : Gx) (fns : Fns) (n : Nat) (f : Addr) (sp : Sp) : Prop := ∃ k, g.fa k = some f ∧ sp = spEv g fns k n ∧ ∃ ds bx, ds.length = n ∧ fns k ds bx ≠ .stuck
theorem evCallV_imp {j n : Nat} {fa : SemA} {σ : L2.St} {H : Hp} {Q : VK} (h : tEvE g W fns (evCallV j n fa) σ H Q) :
    ∃ f k, σ[j]? = some (some (.ref f)) ∧ g.fa k = some f ∧ tEvAS g W fns fa σ H fun vs H1 => ∃ sp, SV g fns n f sp ∧ sp vs H1 Q (WE W σ) := by
  obtain ⟨b, F, β, vs, bx, R, h⟩ := h
  unfold evCallV at h
  cases es : vs[j]? with
  | none => rw [es] at h; exact h.elim
  | some sl =>
    rw [es] at h
    cases sl with
    | none => exact h.elim
    | own d => exact h.elim
    | val d =>
      cases d with
      | fn k =>
        obtain ⟨v, e1, r⟩ := R.slot j _ es
        cases r with
        | fn ef =>
          refine ⟨_, k, e1, ef, ?_⟩
          have h2 : tEvE g W fns (evCall k n fa) σ H Q := ⟨b, F, β, vs, bx, R, h⟩
          refine tEvAS_mono (evCall_imp h2) fun xs H1 z => ⟨_, ⟨k, ef, rfl, ?_⟩, z⟩
          obtain ⟨hl, F1, β1, bx1, ds, rp, bo, z⟩ := z
          exact ⟨ds, bx1, by rw [← rp.length]; exact hl, fun ee => by rw [ee] at z; exact z⟩
      | _ => exact h.elim
theorem pe_callV {S : Addr → Sp → Prop} {CX : CXT} {i : Nat} {x : Str} {p pos : Pos} {e : Expr} {es : List Expr} {E : L2.St → XK} {t : TA} {KA : Addr → Prop}
    (hkp : ∀ f, KA f → PySem.W.keepIn X.K (.ref f) = true) (A : ∀ f sp, KA f → S f sp → ∃ kk fd ps, FnOk X.prog X.w X.K X.mg X.base CX kk f fd ps sp ∧ Room kk X.A ∧ Binds X.K fd ps []) (hx : ∀ σ, PassesAt CX X σ (E σ))
    (hN : X.N[i]? = some x) (hv : Vis X.env.scope x) (ha : PA X (e :: es) t) (hdb : (x == ("__debug__" : Str)) = false) (hcd : (x == ("__classdict__" : Str)) = false)
    (he : starEach (e :: es) X.env = (false, eval e X.env) :: starEach es X.env) (hpl : (backTo pos (starEach es X.env)).any (·.1) = false) :
    PE X (.Call (.Name x p) (e :: es) [] pos) (fun σ H Q => ∃ f, σ[i]? = some (some (.ref f)) ∧ KA f ∧ t σ H fun vs H1 => ∃ sp, S f sp ∧ sp vs H1 Q (E σ)) := by
  refine ⟨fun pins s σ H Q I ⟨f, hs, kf, ht⟩ => ?_⟩
  refine wpAny_Call_Name_kw (thn ((pe_var (pos := p) hN hv hdb hcd).run pins s σ H (fun v H1 => v = .ref f ∧ H1 = H) I ⟨.ref f, hs, rfl, rfl⟩) fun u s1 ⟨v, H1, I1, r1, e1, e2⟩ => ?_)
  subst e1 e2
  cases r1
  refine PySem.W.callWith_K (h₀ := X.base) I.ok.mod.kin (hkp f kf) (thn (ha.run pos pins s1 σ _ _ I1 ht) fun us s2 ⟨vs, H2, I2, r, sp, sS, q⟩ => ⟨I2.kIn, ?_⟩) he hpl
  obtain ⟨kk, fd, ps, F, hr, hb⟩ := A f sp kf sS
  exact run_fnS F hr hb (hx σ) I2 r q
theorem pe_callV0 {S : Addr → Sp → Prop} {CX : CXT} {i : Nat} {x : Str} {p pos : Pos} {E : L2.St → XK} {KA : Addr → Prop}
    (hkp : ∀ f, KA f → PySem.W.keepIn X.K (.ref f) = true) (A : ∀ f sp, KA f → S f sp → ∃ kk fd ps, FnOk X.prog X.w X.K X.mg X.base CX kk f fd ps sp ∧ Room kk X.A ∧ Binds X.K fd ps []) (hx : ∀ σ, PassesAt CX X σ (E σ))
    (hN : X.N[i]? = some x) (hv : Vis X.env.scope x) (hdb : (x == ("__debug__" : Str)) = false) (hcd : (x == ("__classdict__" : Str)) = false) :
    PE X (.Call (.Name x p) [] [] pos) (fun σ H Q => ∃ f, σ[i]? = some (some (.ref f)) ∧ KA f ∧ ∃ sp, S f sp ∧ sp [] H Q (E σ)) := by
  refine ⟨fun pins s σ H Q I ⟨f, hs, kf, sp, sS, ht⟩ => ?_⟩
  refine wpAny_Call_Name_kw (thn ((pe_var (pos := p) hN hv hdb hcd).run pins s σ H (fun v H1 => v = .ref f ∧ H1 = H) I ⟨.ref f, hs, rfl, rfl⟩) fun u s1 ⟨v, H1, I1, r1, e1, e2⟩ => ?_)
  subst e1 e2
  cases r1
  obtain ⟨kk, fd, ps, F, hr, hb⟩ := A f sp kf sS
  exact PySem.W.callWith_K0 I1.kIn (hkp f kf) (run_fnS (us := []) F hr hb (hx σ) I1 .nil ht)
end

/-! ### x(lambda: e) -/
/-- the def that got a lambda: it ends with a text -/
def strR (r : Res FR) : Res ER := match r with
  | .ok ⟨.str z, _, bx⟩ => .ok ⟨.str z, [], .sh, bx⟩
  | _ => .stuck
def evLam (i : Nat) (f : SemE) : SemE := fun c vs bx => match f c vs bx with
  | .ok r => strR (c i [.non] r.bx)
  | .exc x bx1 => strR (c i [.exn x] bx1)
  | .stuck => .stuck
def AskH (g : Gx) (Q : VK) (F : Addr → Prop) (β : List Addr) (H : Hp) (res : Res FR) : Prop := match res with
  | .ok ⟨.str z, _, bx1⟩ => ∀ F' β' H', Stp g.toGh F β H F' β' H' bx1 → Q (.str z) H'
  | _ => False
/-- what the def of number i makes of a reading of the lambda -/
def TTh (g : Gx) (fns : Fns) (i : Nat) : (XK → Hp → VK → Prop) → Hp → VK → Prop := fun tl H Q =>
  tl (fun cls d H1 => ∃ x F β bx, XR g x cls d H1 ∧ BoxR g.toGh F β H1 bx ∧ AskH g Q F β H1 (fns i [.exn x] bx)) H (fun _ H1 => ∃ F β bx, BoxR g.toGh F β H1 bx ∧ AskH g Q F β H1 (fns i [.non] bx))
section
variable {g : Gx} {W : WX} {fns : Fns} {X : Cx}
theorem Stp.lamH {F : Addr → Prop} {β : List Addr} {H H1 : Hp} {bx : Bx} {P : Addr} {q : Str} (b : BoxR g.toGh F β H bx) (l : LamH P q H H1) (t : LamX.Tabs g.T H1) : Stp g.toGh F β H F β H1 bx :=
  ⟨⟨fun p o e _ => l.at_ e, fun _ f => f, fun _ f => .inl f⟩, fun _ _ e => e, fun _ m => .inl m, ⟨b.len, b.nd, fun k a e => by
    obtain ⟨n, ns, e1, e2⟩ := b.at_ k a e
    exact ⟨n, ns, e1, l.nt e2 fun z => z⟩, fun p f => by
    obtain ⟨o, e⟩ := b.th p f
    rcases l.at_ e with z | ⟨_, ps, z⟩ <;> exact ⟨_, z⟩, t⟩⟩
theorem strR_ok {vs : Vs} {σ : L2.St} {F F1 : Addr → Prop} {β β1 : List Addr} {H H1 : Hp} {bx1 : Bx} {Q : VK} {res : Res FR} (s : Stp g.toGh F β H F1 β1 H1 bx1) (h : AskE g W vs σ F β H Q (strR res)) : AskH g Q F1 β1 H1 res := by
  unfold strR at h
  split at h
  · exact fun F' β' H' s' => h _ F' β' H' (s.trans s') (.str _)
  · exact h.elim
theorem evLam_imp {i : Nat} {f : SemE} {P : Addr} {q : Str} {σ : L2.St} {H : Hp} {Q : VK} (h : tEvE g W fns (evLam i f) σ H Q) :
    tLamH g.T P q (TTh g fns i) (fun E => tEvE g (fun cls d _ H1 => E cls d H1) fns f) σ H Q := by
  obtain ⟨b, F, β, vs, bx, R, h⟩ := h
  change AskE g W vs σ F β H Q _ at h
  refine ⟨R.box.tab, fun H1 l t1 => ?_⟩
  have s0 := Stp.lamH R.box l t1
  unfold TTh
  refine ⟨b, F, β, vs, bx, R.stp s0, ?_⟩
  unfold evLam at h
  cases e : f fns vs bx with
  | stuck => rw [e] at h; exact h.elim
  | ok r =>
    rw [e] at h
    exact fun v F2 β2 H2 s _ => ⟨F2, β2, r.bx, s.box, strR_ok (s0.trans s) h⟩
  | exc x bx1 =>
    rw [e] at h
    exact fun cls d F2 β2 H2 s xr => ⟨x, F2, β2, bx1, xr, s.box, strR_ok (s0.trans s) h⟩

/-! ### isinstance(e, C) of what was caught -/
def isED (tbl : List Nat) (ds : List D) : Option (D × Bool) := match ds with
  | [.exn x] => some (.bl (tbl.contains x.c), false)
  | _ => none
theorem evIsE_imp {tbl : List Nat} {f : SemE} {a : Addr} {x0 : Xc} (hex : g.ex = some (a, x0)) {D : Addr} {C : V} (hC : ∃ cv, (∀ u, RelV C u → u = cv) ∧ PySem.W.kitOne X.K (.ref D) cv = some (tbl.contains x0.c)) {σ : L2.St} {H : Hp} {Q : VK}
    (h : tEvE g W fns (evCB (isED tbl) (evConsC f evNil)) σ H Q) : tCB (rIsE X.K D a) (tCons (tEvE g W fns f) (tCons (tC C) tNil)) σ H Q := by
  obtain ⟨b, F, β, vs, bx, R, h⟩ := h
  change AskE g W vs σ F β H Q _ at h
  unfold evCB evConsC evNil at h
  refine evE_step R (fun r v F1 β1 H1 e s x => ?_) (fun x bx1 e => ?_) fun e => ?_
  · simp only [e, bind_ok] at h
    have R1 := R.stp s
    replace h := AskE.from R s h
    obtain ⟨d, fr, eo, bxr, out⟩ := fin_ok R1 (.refl R1.box) h
    unfold isED at eo
    have cn := x.con R s
    cases ed : r.d with
    | exn x1 =>
      simp only [ed] at eo
      cases eo
      rw [ed] at cn
      have rp : Rep g.toGh _ β1 H1 v (.exn x1) := cn
      cases rp with
      | exn e1 =>
        rw [hex] at e1
        cases e1
        obtain ⟨cv, c1, c2⟩ := hC
        exact ⟨C, cv, _, rfl, c1, c2, out.val0 (.bl _)⟩
    | _ => simp only [ed] at eo; cases eo
  · simp only [e, bind_exc] at h; exact h
  · simp only [e, bind_stuck] at h; exact h
end

/-! ### try: x() / except C as e: s / r -/
def strO : Out → Out
  | .ret (.str z) _ bx => .ret (.str z) false bx
  | _ => .stuck
def evTryAs (j : Nat) (tbl : List Nat) (s r : SemS) : SemS := fun c n vs bx => match (vs[0]? : Option Slot) with
  | some (.val .non) => strO (r c n (vs.set 0 .none) bx)
  | some (.val (.exn x)) => if tbl.contains x.c && x.pl.isNone then strO (s c n ((vs.set 0 .none).set j (.val (.exn x))) bx) else .stuck
  | _ => .stuck

/-! ### a list walked where an exception is handled -/
def evItH (f : SemE) : SemI := fun c vs bx => (f c vs bx).bind fun r => match r.d with
  | .lst ds => .ok ⟨ds, r.ls, r.bx⟩
  | _ => .stuck
section
variable {g : Gx} {W : WX} {fns : Fns} {X : Cx}
theorem evItH_imp (hK : X.K = g.K) {f : SemE} {σ : L2.St} {H : Hp} {R : It → Hp → Prop} (h : tEvI g W fns (evItH f) σ H R) :
    tEvE g W fns f σ H fun x H1 => ∃ a, x = .ref a ∧ (∃ xs, SqL X.K H1 a xs) ∧ R (Itl X.K a) H1 := by
  obtain ⟨b, F, β, vs, bx, RS, h⟩ := h
  unfold evItH at h
  refine evE_step RS (fun r v F1 β1 H1 e s x => ?_) (fun x bx1 e => ?_) fun e => ?_
  · rw [e, bind_ok] at h
    obtain ⟨F2, s2, up, rp⟩ := x.shr RS s
    rw [hK]
    cases ed : r.d with
    | lst ds =>
      rw [ed] at h rp
      cases rp with
      | lst sl f rr => exact ⟨_, rfl, ⟨_, .of sl⟩, h _ F2 β1 H1 s2 (ItR.list sl f rr)⟩
    | _ => rw [ed] at h; exact h.elim
  · rw [e] at h; exact h
  · rw [e] at h; exact h
theorem tLc_imp {wi wi' : TI} {g1 : TG} {tt : TT} {te : TE} {vs : List Nat} {σ : L2.St} {H : Hp} {Q : VK} (i : ∀ R, wi σ H R → wi' σ H R) (h : tLc wi g1 tt te vs σ H Q) : tLc wi' g1 tt te vs σ H Q := i _ h

/-! ### sep.join(texts) -/
def strsOf : List D → Option (List Str)
  | [] => some []
  | .str x :: ds => (strsOf ds).map (x :: ·)
  | _ => none
def joinD (a b : D) : Option (D × Bool) := match a, b with
  | .str a, .lst ds => match strsOf ds with
    | some ys => if (ys.map (·.length)).sum + ys.length * a.length ≤ lim then some (.str (Txt.join a ys), false) else none
    | none => none
  | .str a, .tup ds => match strsOf ds with
    | some ys => if (ys.map (·.length)).sum + ys.length * a.length ≤ lim then some (.str (Txt.join a ys), false) else none
    | none => none
  | _, _ => none
theorem strsOf_ok {G : Gh} {F : Addr → Prop} {β : List Addr} {H : Hp} : ∀ {ds : List D} {ys : List Str} {us : List V}, strsOf ds = some ys → RepAll G F β H us ds → us = ys.map V.str
  | [], ys, us, h, r => by simp [strsOf] at h; subst h; cases r; rfl
  | d :: ds, ys, us, h, r => by
    cases r with
    | cons a b =>
      cases d with
      | str x =>
        simp only [strsOf, Option.map_eq_some_iff] at h
        obtain ⟨zs, e, rfl⟩ := h
        cases a
        rw [strsOf_ok e b]; rfl
      | _ => simp [strsOf] at h
def rJoinA (K : PySem.W.Frag) : R2 := fun x y H Q => ∃ a p, ∃ ys : List Str, x = .str a ∧ y = .ref p ∧ (SqL K H p (ys.map V.str) ∨ SqT K H p (ys.map V.str)) ∧ (ys.map (·.length)).sum + ys.length * a.length ≤ 16777216 ∧ Q (.str (Txt.join a ys)) H
theorem joinD_ok {G : Gh} : OpD G (rJoinA G.K) joinD := by
  intro F β H bx x y d1 d2 d fr Q h b c1 c2 out
  unfold joinD at h
  split at h
  · rename_i a ds
    split at h
    · rename_i ys ey
      split at h
      · rename_i hl
        cases h
        obtain ⟨p, us, rfl, s1, _, r1⟩ := c2
        rw [c1.str]
        rw [strsOf_ok ey r1] at s1
        exact ⟨a, p, ys, rfl, rfl, .inl (.of s1), hl, out.val0 (.str _)⟩
      · cases h
    · cases h
  · rename_i a ds
    split at h
    · rename_i ys ey
      split at h
      · rename_i hl
        cases h
        obtain ⟨p, us, rfl, s1, r1⟩ := c2.tup
        rw [c1.str]
        rw [strsOf_ok ey r1] at s1
        exact ⟨a, p, ys, rfl, rfl, .inr s1, hl, out.val0 (.str _)⟩
      · cases h
    · cases h
  · cases h
def evJoin (f1 f2 : SemE) : SemE := fun c vs bx => (f1 c vs bx).bind fun r1 => match r1.d with
  | .str _ => (f2 c vs r1.bx).bind fun r2 => fin (joinD r1.d r2.d) (r1.l ++ r2.l) r2.bx
  | _ => .stuck
theorem evJoin_imp (hK : X.K = g.K) {f1 f2 : SemE} {σ : L2.St} {H : Hp} {Q : VK} (h : tEvE g W fns (evJoin f1 f2) σ H Q) :
    tM1 (fun x xs H Q => ∃ a p, ∃ ys : List Str, x = .str a ∧ xs = [.ref p] ∧ (SqL X.K H p (ys.map V.str) ∨ SqT X.K H p (ys.map V.str)) ∧ (ys.map (·.length)).sum + ys.length * a.length ≤ 16777216 ∧ Q (.str (Txt.join a ys)) H) (tEvE g W fns f1) (tEvE g W fns f2) σ H Q := by
  obtain ⟨b, F, β, vs, bx, R, h⟩ := h
  change AskE g W vs σ F β H Q _ at h
  unfold evJoin at h
  refine evE_step R (fun r1 v1 F1 β1 H1 e1 s1 x1 => ?_) (fun x bx1 e => ?_) fun e => ?_
  · rw [e1, bind_ok] at h
    have R1 := R.stp s1
    replace h := AskE.from R s1 h
    have cn := x1.con R s1
    cases ed : r1.d with
    | str a =>
      rw [ed] at h cn
      refine ⟨⟨a, cn.str⟩, ?_⟩
      refine evE_step R1 (fun r2 v2 F2 β2 H2 e2 s2 x2 => ?_) (fun x bx1 e => ?_) fun e => ?_
      · simp only [e2, bind_ok] at h
        obtain ⟨d, fr, eo, bxr, out⟩ := fin_ok R1 s2 h
        have c1 := ((x1.con R s1).keep s2 s1.box fun p z => (R1.lent z).2.1).up (F' := fun p => F2 p ∨ Lent vs σ (r1.l ++ r2.l) p) fun p z => z.imp id (Lent.up fun i m => List.mem_append_left _ m)
        have c2 := (x2.con R1 s2).up (F' := fun p => F2 p ∨ Lent vs σ (r1.l ++ r2.l) p) fun p z => z.imp id (Lent.up fun i m => List.mem_append_right _ m)
        rw [ed] at c1
        obtain ⟨a', p, ys, e3, e4, e5, e6, e7⟩ := joinD_ok _ _ _ _ _ _ _ _ _ _ _ eo bxr c1 c2 out
        exact ⟨a', p, ys, e3, by rw [e4], by rw [hK]; exact e5, e6, e7⟩
      · simp only [e, bind_exc] at h; exact h
      · simp only [e, bind_stuck] at h; exact h
    | _ => rw [ed] at h; exact h.elim
  · rw [e] at h; exact h
  · rw [e] at h; exact h
end
end Pv

/-! Pv.M: the plain syntax and what it means. -/
namespace Pv
open L2 PySem PyProof.Rows PySem.Spec

inductive O2 where
  | add | sub | mul | fdiv | mod | pow | eq | ne | lt | le | gt | ge | is | isn | inn | nin
  deriving Repr, DecidableEq
inductive OC where
  | len | abs | int | gcd | comb | list | tuple | sum | max | min | all | any
  deriving Repr, DecidableEq
def O2.den : O2 → D → D → Option (D × Bool)
  | .add => addD | .sub => subD | .mul => mulD | .fdiv => fdivD | .mod => modD | .pow => powD
  | .eq => eqD | .ne => neD | .lt => ltD | .le => leD | .gt => gtD | .ge => geD | .is => isD | .isn => isnD | .inn => inD | .nin => ninD
def OC.den : OC → List D → Option (D × Bool)
  | .len => lenD | .abs => absD | .int => intD | .gcd => gcdD | .comb => combD | .list => listD | .tuple => tupleD | .sum => sumD
  | .max => maxD | .min => minD | .all => allD | .any => anyD

mutual
inductive IE where
  | var (i : Nat) | con (d : D) | op (o : O2) (a b : IE) | neg (a : IE) | ix (a b : IE) | cb (o : OC) (as : IA) | isi (T : String) (a : IE)
  | andV (a b : IE) | orV (a b : IE) | notV (a : IE) | ite (t : IT) (a b : IE) | chain (o o' : O2) (a b c : IE)
  | tup (as : IA) | lst (as : IA) | call (i n : Nat) (as : IA) | lc (src : II) (t : Tgt) (tst : IT) (elt : IE) (own : List Nat)
  | sl (a : IE) (lo hi : IP) | rev (a : IE) | dK | dT
  | callV (j n : Nat) (as : IA) | lam (i : Nat) (a : IE) | isE (tbl : List Nat) (a : IE) | join (a b : IE)
inductive IT where
  | yes | tst (e : IE) | tru (e : IE) | and (a b : IT) | or (a b : IT) | not (a : IT)
inductive IA where
  | nil | cons (e : IE) (r : IA)
inductive II where
  | it (e : IE) | itH (e : IE) | rng1 (a : IE) | rng2 (a b : IE) | zip (as : IA) | enum (as : IA)
inductive IP where
  | none | some (e : IE)
end
inductive IS where
  | skip | brk | cnt | asg (i : Nat) (e : IE) | asgG (t : Tgt) (e : IE) | par (is : List Nat) (as : IA) | parO (i j : Nat) (a b : IE) | boxAsg (i : Nat) (e : IE) | expr (e : IE) | ret (e : IE) | retN
  | ite (t : IT) (a b : IS) | for_ (src : II) (t : Tgt) (b : IS) | while_ (t : IT) (b : IS) | append (i : Nat) (e : IE)
  | store (i : Nat) (k e : IE) | storeT (i : Nat) (as : IA) (e : IE) | raise (k : Nat) | seq (a b : IS)
  | tryAs (j : Nat) (tbl : List Nat) (s r : IS)

mutual
def IE.den : IE → SemE
  | .var i => evVar i
  | .con d => evC d
  | .op o a b => evOp o.den a.den b.den
  | .neg a => evUn negD a.den
  | .ix a b => evIx a.den b.den
  | .cb o as => evCB o.den as.denC
  | .isi T a => evCB (isiD T) (evConsC a.den evNil)
  | .andV a b => evAndV a.den b.den
  | .orV a b => evOrV a.den b.den
  | .notV a => evNotV a.den
  | .ite t a b => evIf t.den a.den b.den
  | .chain o o' a b c => evChain o.den o'.den a.den b.den c.den
  | .tup as => evDisp tupD as.denS
  | .lst as => evDisp lstD as.denS
  | .call i n as => evCall i n as.denS
  | .lc src t tst elt own => evLc src.den t tst.den elt.den own
  | .sl a lo hi => evSl a.den lo.den hi.den
  | .rev a => evRev a.den
  | .dK => evDnewK
  | .dT => evDnewT
  | .callV j n as => evCallV j n as.denS
  | .lam i a => evLam i a.den
  | .isE tbl a => evCB (isED tbl) (evConsC a.den evNil)
  | .join a b => evJoin a.den b.den
def IT.den : IT → SemT
  | .yes => evYes
  | .tst e => evTst e.den
  | .tru e => evTru e.den
  | .and a b => evAndT a.den b.den
  | .or a b => evOrT a.den b.den
  | .not a => evNotT a.den
def IA.denS : IA → SemA
  | .nil => evNil
  | .cons e r => evConsS e.den r.denS
def IA.denC : IA → SemA
  | .nil => evNil
  | .cons e r => evConsC e.den r.denC
def II.den : II → SemI
  | .it e => evIt e.den
  | .itH e => evItH e.den
  | .rng1 a => evRng1 a.den
  | .rng2 a b => evRng2 a.den b.den
  | .zip as => evZip as.denS
  | .enum as => evEnumA as.denS
def IP.den : IP → Option SemE
  | .none => none
  | .some e => some e.den
end
def IS.den : IS → SemS
  | .skip => evSkip
  | .brk => evBrk
  | .cnt => evCnt
  | .asg i e => evAsg i e.den
  | .asgG t e => evAsgG t e.den
  | .par is as => evPar is as.denS
  | .parO i j a b => evParO i j a.den b.den
  | .boxAsg i e => evBoxAsg i e.den
  | .expr e => evExpr e.den
  | .ret e => evRet e.den
  | .retN => evRetN
  | .ite t a b => evIfS t.den a.den b.den
  | .for_ src t b => evFor src.den t b.den
  | .while_ t b => evWhile t.den b.den
  | .append i e => evAppend i e.den
  | .store i k e => evStore i k.den e.den
  | .storeT i as e => evStoreT i as.denS e.den
  | .raise k => evRaise k
  | .seq a b => evSeq a.den b.den
  | .tryAs j tbl s r => evTryAs j tbl s.den r.den

/-! ### from the text -/
/-- what a text's names are -/
structure PIn where
  consts : List (Str × D)
  defs : List (Str × Nat)
  bfs : List (Str × String)
  free : List Str
  cls : List Str
  boxers : List Str
  dt : List Nat
  als : List (Str × Nat) := []
  vc : Bool := false
  hands : List (Str × Nat) := []
  subs : List (Str × List Nat) := []
  hot : Bool := false
  exq : Bool := false
structure CC where
  N : List Str
  sc : Scope
  fn : Str → Bool
  P : PIn

def idx? (N : List Str) (x : Str) : Option Nat := N.findIdx? (· == x)
def visB (sc : Scope) (x : Str) : Bool := match sc.names.lookup x with
  | some .local => true
  | some .cell => true
  | some .free => true
  | _ => false
def globB (sc : Scope) (x : Str) : Bool := match sc.names.lookup x with
  | some .globalImplicit => true
  | _ => false
def okName (x : Str) : Bool := !(x == ("__debug__" : Str)) && !(x == ("__classdict__" : Str)) && !(x == ("__name__" : Str))
def binO : Operator → Option O2
  | .Add => some .add | .Sub => some .sub | .Mult => some .mul | .FloorDiv => some .fdiv | .Mod => some .mod | .Pow => some .pow | _ => none
def cmpO : CmpOp → Option O2
  | .Eq => some .eq | .NotEq => some .ne | .Lt => some .lt | .LtE => some .le | .Gt => some .gt | .GtE => some .ge | .Is => some .is | .IsNot => some .isn
  | .In => some .inn | .NotIn => some .nin
def cConst : Const → Option D
  | .none => some .non
  | .bool b => some (.bl b)
  | .int i => some (.int i)
  | .str s => some (.str s)
  | _ => none
/-- the number of the def that a top name stands for -/
def defNo (P : PIn) (x : Str) : Option Nat := match P.als.lookup x with
  | some k => some k
  | none => P.defs.findIdx? fun d => d.1 == x
def cName (c : CC) (x : Str) : Option IE :=
  if okName x then
    if visB c.sc x then (idx? c.N x).map .var
    else if globB c.sc x then (match c.P.consts.lookup x with
        | some d => some (.con d)
        | none => if c.P.vc then (defNo c.P x).map fun k => .con (.fn k) else none) else none
  else none
/-- built-in functions by name -/
def bOC (x : Str) : Option (OC × String × Bool) :=
  if x == ("len" : Str) then some (.len, "len", false)
  else if x == ("abs" : Str) then some (.abs, "abs", false)
  else if x == ("int" : Str) then some (.int, "int", true)
  else if x == ("list" : Str) then some (.list, "list", true)
  else if x == ("tuple" : Str) then some (.tuple, "tuple", true)
  else if x == ("sum" : Str) then some (.sum, "sum", false)
  else if x == ("max" : Str) then some (.max, "max", false)
  else if x == ("min" : Str) then some (.min, "min", false)
  else if x == ("all" : Str) then some (.all, "all", false)
  else if x == ("any" : Str) then some (.any, "any", false)
  else none
def fOC (id : String) : Option OC := if id == "math.gcd" then some .gcd else if id == "math.comb" then some .comb else none
def tyN (x : Str) : Option String :=
  if x == ("int" : Str) then some "int" else if x == ("bool" : Str) then some "bool" else if x == ("str" : Str) then some "str"
  else if x == ("tuple" : Str) then some "tuple" else if x == ("list" : Str) then some "list" else if x == ("dict" : Str) then some "dict" else none
def isStar : Expr → Bool
  | .Starred .. => true
  | _ => false
def isSlice : Expr → Bool
  | .Slice .. => true
  | _ => false
def isSet : Expr → Bool
  | .Set .. => true
  | _ => false
/-- may stand as a test by its truth -/
def plainT : Expr → Bool
  | .Name .. => true
  | .Call .. => true
  | .Subscript .. => true
  | _ => false
def locB (sc : Scope) (x : Str) : Bool := match sc.names.lookup x with
  | some .local => true
  | some .cell => true
  | _ => false
def lclB (sc : Scope) (x : Str) : Bool := match sc.names.lookup x with
  | some .local => true
  | _ => false
def ixOf? (c : CC) (x : Str) : Option Nat := if okName x && locB c.sc x && (c.fn x || lclB c.sc x) then idx? c.N x else none
mutual
def cTgt : Nat → CC → Expr → Option Tgt
  | 0, _, _ => none
  | n + 1, c, e => match e with
    | .Name x _ => (ixOf? c x).map .nm
    | .Tuple es _ _ => (cTgts n c es).map .tp
    | _ => none
def cTgts : Nat → CC → List Expr → Option (List Tgt)
  | 0, _, _ => none
  | n + 1, c, es => match es with
    | [] => some []
    | e :: es => do
      let t ← cTgt n c e
      let ts ← cTgts n c es
      some (t :: ts)
end
/-- the block of a comprehension -/
def blkOwn (N : List Str) (scope : Scope) : List (Str × Nat) := scope.names.filterMap fun y => match y.2 with
  | .local => (idx? N y.1).map fun i => (y.1, i)
  | .cell => (idx? N y.1).map fun i => (y.1, i)
  | _ => none
def relS (scope sc : Scope) : Scope := { kind := scope.kind, names := scope.names.map fun (n, k) => if k == .free && sc.kind == .function && sc.names.lookup n == some .cell then (n, .cell) else (n, k), isGenerator := scope.isGenerator, isCoroutine := scope.isCoroutine, more := scope.more }
def blkCC (c : CC) (scope : Scope) : CC := ⟨c.N, relS scope c.sc, fun x => scope.names.lookup x == some .cell, { c.P with exq := false }⟩
def pickI (b : Bool) (x y : Option II) : Option II := if b then x else y
/-- a lambda's body -/
def lamCC (c : CC) (scope : Scope) : CC := ⟨c.N, scope, fun _ => false, { c.P with hands := [] }⟩
def noArgs : Arguments → Bool
  | ⟨[], [], none, [], [], none, []⟩ => true
  | _ => false
def isText : Expr → Bool
  | .Constant (.str _) _ _ => true
  | _ => false
def okB (c : CC) (x : Str) : Bool := okName x && globB c.sc x && c.P.free.contains x
mutual
def cE : Nat → CC → Expr → Option IE
  | 0, _, _ => none
  | n + 1, c, e => match e with
    | .Name x _ => cName c x
    | .Constant k _ _ => (cConst k).map .con
    | .BinOp a op b _ => do
      let o ← binO op
      let x ← cE n c a
      let y ← cE n c b
      some (.op o x y)
    | .UnaryOp .USub a _ => (cE n c a).map .neg
    | .UnaryOp .Not a _ => (cE n c a).map .notV
    | .BoolOp _ [a] _ => cE n c a
    | .BoolOp .And (a :: b :: r) p => do
      let x ← cE n c a
      let y ← cE n c (.BoolOp .And (b :: r) p)
      some (.andV x y)
    | .BoolOp .Or (a :: b :: r) p => do
      let x ← cE n c a
      let y ← cE n c (.BoolOp .Or (b :: r) p)
      some (.orV x y)
    | .Compare a [op] [b] _ => do
      let o ← cmpO op
      let x ← cE n c a
      let y ← cE n c b
      if behindInMarks op b then none else some (.op o x y)
    | .Compare a [op, op'] [b, d] _ => do
      let o ← cmpO op
      let o' ← cmpO op'
      let x ← cE n c a
      let y ← cE n c b
      let z ← cE n c d
      if lastMarks [op, op'] [b, d] then none else some (.chain o o' x y z)
    | .IfExp t a b _ => do
      let u ← cT n c t
      let x ← cE n c a
      let y ← cE n c b
      some (.ite u x y)
    | .Tuple es _ _ => (cA n c es).map .tup
    | .List es _ => (cA n c es).map .lst
    | .Dict [] [] p => if c.P.dt.contains p.line then some .dT else some .dK
    | .Subscript a (.Slice none none (some (.UnaryOp .USub (.Constant (.int 1) _ _) _)) _) _ => (cE n c a).map .rev
    | .Subscript a (.Slice lo hi none _) _ => do
      let x ← cE n c a
      let l ← cP n c lo
      let h ← cP n c hi
      some (.sl x l h)
    | .Subscript a b _ => do
      let x ← cE n c a
      let y ← cE n c b
      if isSlice b then none else some (.ix x y)
    | .Call (.Name x _) es [] _ => if okName x && globB c.sc x then cCall n c x es
      else if okName x && visB c.sc x && c.P.vc && !c.P.hot then (match idx? c.N x, cA n c es with
        | some j, some as => some (.callV j es.length as)
        | _, _ => none)
      else none
    | .Call (.Attribute o m apos) [a] [] pos => do
      let x ← cE n c o
      let y ← cE n c a
      if m == ("join" : Str) && isText o && !isStar a && (apos.endLine == pos.line) then some (.join x y) else none
    | .ListComp elt [⟨tg, iter, ifs, 0⟩] scope _ => do
      let src ← pickI c.P.hot ((cE n c iter).map .itH) (cI n c tg iter)
      let c' := blkCC c scope
      let t ← cTgt n c' tg
      let ts ← cTs n c' ifs
      let el ← cE n c' elt
      let own := blkOwn c.N scope
      if blkC c.N c.sc scope own && t.ix.all (fun j => (own.map (·.2)).contains j) && !isSet iter then some (.lc src t ts el (own.map (·.2))) else none
    | _ => none
def cT : Nat → CC → Expr → Option IT
  | 0, _, _ => none
  | n + 1, c, e => match e with
    | .BoolOp _ [a] _ => cT n c a
    | .BoolOp .And (a :: b :: r) p => do
      let x ← cT n c a
      let y ← cT n c (.BoolOp .And (b :: r) p)
      some (.and x y)
    | .BoolOp .Or (a :: b :: r) p => do
      let x ← cT n c a
      let y ← cT n c (.BoolOp .Or (b :: r) p)
      some (.or x y)
    | .UnaryOp .Not a _ => (cT n c a).map .not
    | .Compare a [op] [b] _ => do
      let o ← cmpO op
      let x ← cE n c a
      let y ← cE n c b
      if behindInMarks op b then none else some (.tst (.op o x y))
    | .Compare a [op, op'] [b, d] _ => do
      let o ← cmpO op
      let o' ← cmpO op'
      let x ← cE n c a
      let y ← cE n c b
      let z ← cE n c d
      if lastMarks [op, op'] [b, d] then none else some (.tst (.chain o o' x y z))
    | e => if plainT e then (cE n c e).map .tru else none
def cTs : Nat → CC → List Expr → Option IT
  | 0, _, _ => none
  | n + 1, c, es => match es with
    | [] => some .yes
    | [e] => cT n c e
    | _ => none
def cA : Nat → CC → List Expr → Option IA
  | 0, _, _ => none
  | n + 1, c, es => match es with
    | [] => some .nil
    | e :: es => do
      let x ← cE n c e
      let r ← cA n c es
      if isStar e then none else some (.cons x r)
def cP : Nat → CC → Option Expr → Option IP
  | 0, _, _ => none
  | n + 1, c, o => match o with
    | none => some .none
    | some e => (cE n c e).map .some
def cCall : Nat → CC → Str → List Expr → Option IE
  | 0, _, _, _ => none
  | n + 1, c, x, es => match c.P.hands.lookup x with
    | some i => match es with
      | [.Lambda params body scope _] => do
        let y ← cE n (lamCC c scope) body
        if noArgs params && LamX.lamSB c.sc scope && !c.P.hot && !c.P.exq then some (.lam i y) else none
      | _ => none
    | none => match defNo c.P x with
      | some i => match c.P.defs[i]? with
        | some (_, m) => if c.P.hot then none else (cA n c es).map (.call i m)
        | none => none
      | none => match c.P.bfs.lookup x with
        | some id => match fOC id, es with
          | some o, _ :: _ => (cA n c es).map (.cb o)
          | _, _ => none
        | none => if c.P.free.contains x then
            match bOC x, es with
            | some (o, _, _), _ :: _ => if c.P.hot then none else (cA n c es).map (.cb o)
            | none, [a, .Name T _] => if x == ("isinstance" : Str) && !isStar a then
                (if okB c T then do
                  let u ← tyN T
                  let y ← cE n c a
                  some (.isi u y)
                else if c.P.exq && okName T && globB c.sc T then do
                  let tbl ← c.P.subs.lookup T
                  let y ← cE n c a
                  some (.isE tbl y)
                else none)
              else none
            | _, _ => none
          else none
def cI : Nat → CC → Expr → Expr → Option II
  | 0, _, _, _ => none
  | n + 1, c, tg, e => match e with
    | .Call (.Name x _) es [] _ => if x == ("range" : Str) then (if okB c x then match es with
        | [a] => do
          let y ← cE n c a
          if isStar a then none else some (.rng1 y)
        | [a, b] => do
          let y ← cE n c a
          let z ← cE n c b
          if isStar a || isStar b then none else some (.rng2 y z)
        | _ => none else none)
      else if x == ("zip" : Str) then (if okB c x then match es, tg with
        | [a, b], .Tuple .. => (cA n c [a, b]).map .zip
        | _, _ => none else none)
      else if x == ("enumerate" : Str) then (if okB c x then match es, tg with
        | [a], .Tuple .. => (cA n c [a]).map .enum
        | _, _ => none else none)
      else (cE n c e).map .it
    | e => (cE n c e).map .it
end
end Pv

/-! Pv.N: the plain syntax means what the text means (expressions). -/
namespace Pv
open L2 PySem PyProof.Rows PySem.Spec

/-- all defs of the text keep their promises at the level kk -/
structure LvOk (PI : PIn) (g : Gx) (fns : Fns) (prog : Program) (w : World) (K : PySem.W.Frag) (mg : Str → Option Value) (base : Heap) (kk : Nat) : Prop where
  defs : ∀ i x n, PI.defs[i]? = some (x, n) → ∃ f fd ps, FnOk prog w K mg base (L2N.CX prog w) kk f fd ps (spEv g fns i n) ∧ mg x = some (.ref f) ∧ g.fa i = some f ∧ PySem.W.keepIn K (.ref f) = true ∧ Binds K fd ps []
  als : ∀ x k, PI.als.lookup x = some k → ∃ y n, PI.defs[k]? = some (y, n) ∧ mg x = mg y
  vc : PI.vc = true → ∀ k f, g.fa k = some f → PySem.W.keepIn K (.ref f) = true ∧ ∀ n, (∃ ds bx, ds.length = n ∧ fns k ds bx ≠ .stuck) → ∃ fd ps, FnOk prog w K mg base (L2N.CX prog w) kk f fd ps (spEv g fns k n) ∧ Binds K fd ps []
structure XOk (c : CC) (g : Gx) (fns : Fns) (X : Cx) : Prop where
  hN : X.N = c.N
  nd : X.N.Nodup
  hs : X.env.scope = c.sc
  kd : c.sc.kind = .function
  fnv : ∀ x, c.fn x = true → X.fn x = true
  calm : c.P.hot = false → X.calm = true
  hotC : c.P.hot = true → L2H.HotC X
  K : X.K = g.K
  hu : X.A.units + 65 < cLine
  consts : ∀ x d, c.P.consts.lookup x = some d → ∃ u v, X.mg x = some u ∧ RelV v u ∧ ∀ F β H, Rep g.toGh F β H v d
  free : ∀ x, c.P.free.contains x = true → X.mg x = none
  bfs : ∀ x id, c.P.bfs.lookup x = some id → X.mg x = some (.builtin id)
  lv : ∃ kk, LvOk c.P g fns X.prog X.w X.K X.mg X.base kk ∧ (c.P.hot = false → Room kk X.A) ∧ (c.P.hands = [] ∨ Room (kk + 2) X.A)
  lam : ∀ x i, c.P.hands.lookup x = some i → ∃ a g0 sg bg cdv Ng cc P, HdF X Ng x a g0 sg bg cdv (lmN X.env.qual) (TTh g fns i) ∧ LamX.TabB X.base X.mg cc P ∧ X.env.code = .ref cc ∧ (P, lmN X.env.qual) ∈ g.T ∧ ∀ p ∈ g.T, p.1 = P → p.2 = lmN X.env.qual
  exn : c.P.exq = true → ∃ a x0, g.ex = some (a, x0) ∧ CallR X (.builtin "isinstance") (rIsE X.K (g.ca x0.c) a) ∧ ∀ C tbl, c.P.subs.lookup C = some tbl → ∃ Ca, X.mg C = some (.ref Ca) ∧ PySem.W.kitOne X.K (.ref (g.ca x0.c)) (.ref Ca) = some (tbl.contains x0.c)

theorem idx?_ok {N : List Str} {x : Str} {i : Nat} (h : idx? N x = some i) : N[i]? = some x := by
  unfold idx? at h
  rw [List.findIdx?_eq_some_iff_getElem] at h
  obtain ⟨hl, e, _⟩ := h
  rw [List.getElem?_eq_getElem hl, eq_of_beq e]
theorem visB_ok {sc : Scope} {x : Str} (h : visB sc x = true) : Vis sc x := by
  unfold visB at h
  split at h <;> rename_i e <;> first | exact .inl e | exact .inr (.inl e) | exact .inr (.inr e) | cases h
theorem globB_ok {sc : Scope} {x : Str} (h : globB sc x = true) : sc.names.lookup x = some .globalImplicit := by
  unfold globB at h
  split at h
  · assumption
  · cases h
theorem okName_ok {x : Str} (h : okName x = true) : (x == ("__debug__" : Str)) = false ∧ (x == ("__classdict__" : Str)) = false ∧ x ≠ ("__name__" : Str) := by
  unfold okName at h
  simp only [Bool.and_eq_true, Bool.not_eq_true'] at h
  refine ⟨h.1.1, h.1.2, fun e => ?_⟩
  subst e
  have := h.2
  simp at this
theorem star_of {e : Expr} {es : List Expr} {env : Env} (h : isStar e = false) : starEach (e :: es) env = (false, eval e env) :: starEach es env := by
  cases e <;> first | rfl | cases h
theorem plainIx_of {e : Expr} (h : isSlice e = false) : PlainIx e := by
  intro o i
  cases e <;> first | rfl | cases h
theorem set_of {e : Expr} (h : isSet e = false) (env : Env) : ∀ x, foldedSetIterable e env x = pure x := by
  intro x
  cases e <;> first | rfl | cases h
theorem bk_of {env : Env} (h : env.scope.kind = .function) : env.blockKind = .function := by unfold Env.blockKind; rw [h]; rfl
theorem star_any : ∀ {es : List Expr} {env : Env}, es.any isStar = false → (starEach es env).any (·.1) = false
  | [], _, _ => rfl
  | e :: es, env, h => by
    have h' := (Bool.or_eq_false_iff.mp (by simpa using h : (isStar e || es.any isStar) = false))
    rw [star_of h'.1]
    simp only [List.any_cons, Bool.false_or]
    exact star_any h'.2
theorem backTo_any {pos : Pos} {l : List (Bool × Sem Value)} : (backTo pos l).any (·.1) = l.any (·.1) := by
  unfold backTo
  rw [List.any_map]
  rfl
theorem plainT_ok {e : Expr} {env : Env} (h : plainT e = true) : ∀ whole, isTrue e env whole = (do let v ← whole; standAt e.pos; holding [v] (truthy v)) := by
  intro whole
  cases e <;> first | rfl | cases h

section
variable {g : Gx} {W : WX} {fns : Fns} {X : Cx} {c : CC}
theorem binO_ok (hK : X.K = g.K) {op : Operator} {o : O2} (h : binO op = some o) : ∃ r, OpR X (binaryOp op) r ∧ OpD g.toGh r o.den := by
  cases op <;> cases h
  · exact ⟨_, op_addA, hK ▸ addD_ok⟩
  · exact ⟨_, op_sub, subD_ok⟩
  · exact ⟨_, op_mulA, mulD_ok⟩
  · exact ⟨_, op_modA, modD_ok⟩
  · exact ⟨_, op_pow, powD_ok⟩
  · exact ⟨_, op_fdivA, fdivD_ok⟩
theorem cmpO_ok (hK : X.K = g.K) (hu : X.A.units + 65 < cLine) {op : CmpOp} {o : O2} (h : cmpO op = some o) : ∃ r, OpR X (compareOp op) r ∧ OpD g.toGh r o.den := by
  have hu' : X.A.units + 64 < cLine := by omega
  cases op <;> cases h
  · exact ⟨_, op_eqD hu', hK ▸ eqD_ok⟩
  · exact ⟨_, op_neD hu', hK ▸ neD_ok⟩
  · exact ⟨_, op_lt, ltD_ok⟩
  · exact ⟨_, op_le, leD_ok⟩
  · exact ⟨_, op_gt, gtD_ok⟩
  · exact ⟨_, op_ge, geD_ok⟩
  · exact ⟨_, op_isA, isD_ok⟩
  · exact ⟨_, op_isnA, isnD_ok⟩
  · exact ⟨_, op_inA hu, hK ▸ inD_ok⟩
  · exact ⟨_, op_notInA hu, hK ▸ ninD_ok⟩
theorem gl_of (h : XOk c g fns X) {x : Str} (e : globB c.sc x = true) : Gl X x := by
  show X.env.scope.names.lookup x = _
  rw [h.hs]; exact globB_ok e
theorem vis_of (h : XOk c g fns X) {x : Str} (e : visB c.sc x = true) : Vis X.env.scope x := by rw [h.hs]; exact visB_ok e
theorem okB_ok (h : XOk c g fns X) {x : Str} (e : okB c x = true) : okName x = true ∧ Gl X x ∧ X.mg x = none := by
  unfold okB at e
  simp only [Bool.and_eq_true] at e
  exact ⟨e.1.1, gl_of h e.1.2, h.free _ e.2⟩

theorem defNo_ok (h : XOk c g fns X) {x : Str} {k : Nat} (e : defNo c.P x = some k) : ∃ y n, c.P.defs[k]? = some (y, n) ∧ X.mg x = X.mg y := by
  obtain ⟨kk, L, _⟩ := h.lv
  unfold defNo at e
  split at e
  · rename_i k' ek
    cases e
    exact L.als _ _ ek
  · rw [List.findIdx?_eq_some_iff_getElem] at e
    obtain ⟨hl, hx, _⟩ := e
    cases ed : c.P.defs[k] with
    | mk y m =>
      rw [ed] at hx
      cases eq_of_beq hx
      exact ⟨_, m, by rw [List.getElem?_eq_getElem hl, ed], rfl⟩
theorem takes0 : L2N.Takes X W0 := fun u s' h => by
  obtain ⟨_, _, _, _, _, _, _, _, _, _, _, _, _, _, _, _, z⟩ := h
  exact z.elim
/-- built-in functions -/
theorem bOC_ok (h : XOk c g fns X) (hot : c.P.hot = false) {x : Str} {o : OC} {id : String} {ty : Bool} (e : bOC x = some (o, id, ty)) : ∃ r, CallD g.toGh r o.den ∧ (if ty = true then CallR X (.type id) r ∧ bootBuiltins x = some (.type id) else CallR X (.builtin id) r ∧ bootBuiltins x = some (.builtin id)) := by
  unfold bOC at e
  have hK := h.K
  have hc := h.calm hot
  repeat' split at e
  all_goals (first | cases e; done | skip)
  all_goals (rename_i hx; cases eq_of_beq hx; cases e)
  · exact ⟨_, hK ▸ lenD_ok, by rw [if_neg Bool.false_ne_true]; exact ⟨call_len, rfl⟩⟩
  · exact ⟨_, absD_ok, by rw [if_neg Bool.false_ne_true]; exact ⟨call_abs, rfl⟩⟩
  · exact ⟨_, intD_ok, by rw [if_pos rfl]; exact ⟨call_int1, rfl⟩⟩
  · exact ⟨_, hK ▸ listD_ok, by rw [if_pos rfl]; exact ⟨call_list_of, rfl⟩⟩
  · exact ⟨_, hK ▸ tupleD_ok, by rw [if_pos rfl]; exact ⟨call_tuple_of, rfl⟩⟩
  · exact ⟨_, hK ▸ sumD_ok, by rw [if_neg Bool.false_ne_true]; exact ⟨cr_sum hc, rfl⟩⟩
  · exact ⟨_, hK ▸ maxD_ok, by rw [if_neg Bool.false_ne_true]; exact ⟨(cr_max hc).or (call_max2 hc), rfl⟩⟩
  · exact ⟨_, hK ▸ minD_ok, by rw [if_neg Bool.false_ne_true]; exact ⟨(cr_min hc).or (call_min2 hc), rfl⟩⟩
  · exact ⟨_, hK ▸ allD_ok, by rw [if_neg Bool.false_ne_true]; exact ⟨cr_all hc, rfl⟩⟩
  · exact ⟨_, hK ▸ anyD_ok, by rw [if_neg Bool.false_ne_true]; exact ⟨cr_any hc, rfl⟩⟩
theorem fOC_ok {id : String} {o : OC} (e : fOC id = some o) : ∃ r, CallD g.toGh r o.den ∧ CallR X (.builtin id) r := by
  unfold fOC at e
  split at e
  · rename_i hx; cases eq_of_beq hx; cases e
    exact ⟨_, gcdD_ok, cr_gcd⟩
  · split at e
    · rename_i hx; cases eq_of_beq hx; cases e
      exact ⟨_, combD_ok, cr_comb⟩
    · cases e
theorem tyN_ok {x : Str} {T : String} (e : tyN x = some T) : bootBuiltins x = some (.type T) := by
  unfold tyN at e
  repeat' split at e
  all_goals (first | cases e; done | skip)
  all_goals (rename_i hx; cases eq_of_beq hx; cases e; rfl)

/-! ### targets -/
theorem locB_ok {sc : Scope} {x : Str} (h : locB sc x = true) : Loc sc x := by
  unfold locB at h
  split at h <;> rename_i e <;> first | exact .inl e | exact .inr e | cases h
theorem lclB_ok {sc : Scope} {x : Str} (h : lclB sc x = true) : sc.names.lookup x = some .local := by
  unfold lclB at h
  split at h
  · assumption
  · cases h
theorem ixOf_ok (h : XOk c g fns X) {x : Str} {i : Nat} (e : ixOf? c x = some i) : X.N[i]? = some x ∧ Loc X.env.scope x ∧ (X.fn x = true ∨ X.env.scope.names.lookup x = some .local) := by
  unfold ixOf? at e
  split at e
  · rename_i hc
    simp only [Bool.and_eq_true, Bool.or_eq_true] at hc
    exact ⟨by rw [h.hN]; exact idx?_ok e, by rw [h.hs]; exact locB_ok hc.1.2, hc.2.imp (h.fnv x) fun z => by rw [h.hs]; exact lclB_ok z⟩
  · cases e
theorem assignEach_of {e : Expr} {es : List Expr} {env : Env} (h : isStar e = false) : assignEach (e :: es) env = (false, assign e env) :: assignEach es env := by
  cases e <;> first | rfl | cases h
theorem cTgt_star : ∀ (n : Nat) {e : Expr} {t : Tgt}, cTgt n c e = some t → isStar e = false
  | 0, _, _, h => by simp [cTgt] at h
  | n + 1, e, _, h => by
    unfold cTgt at h
    cases e <;> first | rfl | (simp at h; done)
theorem tgt_sound (h : XOk c g fns X) : ∀ (n : Nat), (∀ e t, cTgt n c e = some t → PG X e (tEvG g t)) ∧
    (∀ es ts, cTgts n c es = some ts → PGs X es (tEvGs g ts) ∧ (assignEach es X.env).length = ts.length ∧ (assignEach es X.env).findIdx? (·.1) = none)
  | 0 => ⟨fun e t q => by simp [cTgt] at q, fun e t q => by simp [cTgts] at q⟩
  | n + 1 => by
    obtain ⟨i1, i2⟩ := tgt_sound h n
    refine ⟨fun e t q => ?_, fun es ts q => ?_⟩
    · unfold cTgt at q
      split at q
      · rw [Option.map_eq_some_iff] at q
        obtain ⟨i, e1, rfl⟩ := q
        obtain ⟨a, b, d⟩ := ixOf_ok h e1
        exact ⟨fun pins s σ H v u Q I r z => (pg_name h.nd a b d).run pins s σ H v u Q I r (tEvG_nm z)⟩
      · rw [Option.map_eq_some_iff] at q
        obtain ⟨ts, e1, rfl⟩ := q
        obtain ⟨p, l, f⟩ := i2 _ _ e1
        cases hh : c.P.hot with
        | false => exact ⟨fun pins s σ H v u Q I r z => (pg_tup (h.calm hh) p l f).run pins s σ H v u Q I r (by rw [h.K]; exact tEvG_tp z)⟩
        | true => exact ⟨fun pins s σ H v u Q I r z => (pg_tupH (h.hotC hh) p l f).run pins s σ H v u Q I r (by rw [h.K]; exact tEvG_tp z)⟩
      · cases q
    · unfold cTgts at q
      split at q
      · cases q
        exact ⟨⟨fun pins s σ H vs us Q I r z => pgs_nil.run pins s σ H vs us Q I r (tEvGs_nil z)⟩, rfl, rfl⟩
      · rename_i e es
        simp only [Option.bind_eq_bind, Option.bind_eq_some_iff] at q
        obtain ⟨t, e1, ts, e2, q⟩ := q
        · cases q
          have st := cTgt_star n e1
          obtain ⟨p, l, f⟩ := i2 _ _ e2
          have ae : assignEach (e :: es) X.env = (false, assign e X.env) :: assignEach es X.env := assignEach_of st
          refine ⟨⟨fun pins s σ H vs us Q I r z => (pgs_cons (i1 _ _ e1) p (by rw [ae]; rfl)).run pins s σ H vs us Q I r (tEvGs_cons z)⟩, by rw [ae, List.length_cons, List.length_cons, l], ?_⟩
          rw [ae, List.findIdx?_cons]
          simp [f]

/-! ### the block of a comprehension -/
theorem relS_eq {X : Cx} {c : CC} {scope : Scope} (hs : X.env.scope = c.sc) : relabel scope X.env = relS scope c.sc := by
  unfold relabel relS Env.kindOf
  rw [hs]
theorem blk_ok (h : XOk c g fns X) {scope : Scope} {own : List (Str × Nat)} (hb : BlkOk c.N c.sc scope own) (hot : c.P.hot = false) (s : Shared) (H : Hp) (C : Addr) (cl : List (Str × Addr)) (fp : List Addr) :
    XOk (blkCC c scope) g fns (X.blk s H scope (compEnvC scope cl C X.env) fp) :=
  ⟨h.hN, h.nd, relS_eq h.hs, hb.kind, fun x e => e, h.calm, fun e => absurd (hot.symm.trans e) (by simp), h.K, h.hu, h.consts, h.free, h.bfs, let ⟨kk, L, r⟩ := h.lv; ⟨kk, ⟨L.defs, L.als, L.vc⟩, r⟩, fun x i e => by
    obtain ⟨a, g0, sg, bg, cdv, Ng, cc, P, F, r⟩ := h.lam x i e
    exact ⟨a, g0, sg, bg, cdv, Ng, cc, P, ⟨F.ex, F.m, F.kp, F.cd, F.sc, F.n0, F.va, F.db, F.cl, F.gives⟩, r⟩, fun e => absurd e (by simp [blkCC])⟩
theorem blkH_ok (h : XOk c g fns X) {scope : Scope} {own : List (Str × Nat)} (hb : BlkOk c.N c.sc scope own) (hot : c.P.hot = true) (s : Shared) (H : Hp) (C : Addr) (cl : List (Str × Addr)) (fp : List Addr) (p : Addr × Obj) (hp : L2H.Hot1 X.A p) :
    XOk (blkCC c scope) g fns (blkH X s H scope (compEnvC scope cl C X.env) fp p) :=
  ⟨h.hN, h.nd, relS_eq h.hs, hb.kind, fun x e => e, fun e => absurd (hot.symm.trans e) (by simp), fun _ => ⟨p, hp, List.mem_singleton.mpr rfl⟩, h.K, h.hu, h.consts, h.free, h.bfs, let ⟨kk, L, r⟩ := h.lv; ⟨kk, ⟨L.defs, L.als, L.vc⟩, r⟩, fun x i e => by
    obtain ⟨a, g0, sg, bg, cdv, Ng, cc, P, F, r⟩ := h.lam x i e
    exact ⟨a, g0, sg, bg, cdv, Ng, cc, P, ⟨F.ex, F.m, F.kp, F.cd, F.sc, F.n0, F.va, F.db, F.cl, F.gives⟩, r⟩, fun e => absurd e (by simp [blkCC])⟩
theorem lam_ok (h : XOk c g fns X) {scope : Scope} (L : LamX.LamS X.env.scope scope) (hot : c.P.hot = false) {kk : Nat} (lv : LvOk c.P g fns X.prog X.w X.K X.mg X.base kk) (A : Around) (outer : List Env) (s : Shared) (H : Hp) (E : XK) (f nc : Addr) (hr : Room kk (A.deeper (LamX.lamEnv X scope s.heap.objs.size f nc)))
    (he : c.P.exq = false) : XOk (lamCC c scope) g fns (lamN X A outer s H E scope f nc) :=
  ⟨h.hN, h.nd, rfl, L.kind, fun x e => (by cases e), fun _ => rfl, fun e => absurd (hot.symm.trans e) (by simp), h.K, (by have := hr.un; show (A.deeper (LamX.lamEnv X scope s.heap.objs.size f nc)).units + 65 < cLine; omega), h.consts, h.free, h.bfs,
    ⟨kk, ⟨lv.defs, lv.als, lv.vc⟩, fun _ => hr, .inl rfl⟩, fun x i e => (by cases e), fun e => absurd (he.symm.trans e) (by simp)⟩

structure Snd (n : Nat) : Prop where
  e : ∀ {c : CC} {g : Gx} {W : WX} {fns : Fns} {X : Cx}, XOk c g fns X → L2N.Takes X W → ∀ x i, cE n c x = some i → PE X x (tEvE g W fns i.den)
  t : ∀ {c : CC} {g : Gx} {W : WX} {fns : Fns} {X : Cx}, XOk c g fns X → L2N.Takes X W → ∀ x i, cT n c x = some i → PT X x (tEvT g W fns i.den)
  w : ∀ {c : CC} {g : Gx} {W : WX} {fns : Fns} {X : Cx}, XOk c g fns X → L2N.Takes X W → ∀ o es p i, cT n c (.BoolOp o es p) = some i → PW X (.BoolOp o es p) (tEvT g W fns i.den)
  ts : ∀ {c : CC} {g : Gx} {W : WX} {fns : Fns} {X : Cx}, XOk c g fns X → L2N.Takes X W → ∀ x i, cTs n c x = some i → PTs X x (tEvT g W fns i.den)
  a : ∀ {c : CC} {g : Gx} {W : WX} {fns : Fns} {X : Cx}, XOk c g fns X → L2N.Takes X W → ∀ x i, cA n c x = some i → PA X x (tEvAS g W fns i.denS) ∧ PA X x (tEvAC g W fns i.denC) ∧ x.any isStar = false
  p : ∀ {c : CC} {g : Gx} {W : WX} {fns : Fns} {X : Cx}, XOk c g fns X → L2N.Takes X W → ∀ x i, cP n c x = some i → PO X x (tEvO g W fns i.den)
  c : ∀ {c : CC} {g : Gx} {W : WX} {fns : Fns} {X : Cx}, XOk c g fns X → L2N.Takes X W → ∀ x es i p pos, okName x = true → globB c.sc x = true → cCall n c x es = some i → PE X (.Call (.Name x p) es [] pos) (tEvE g W fns i.den)
  i : ∀ {c : CC} {g : Gx} {W : WX} {fns : Fns} {X : Cx}, XOk c g fns X → L2N.Takes X W → ∀ tg x i, cI n c tg x = some i → PI X tg x (tEvI g W fns i.den)
theorem PI.imp {X : Cx} {tg e : Expr} {t t' : TI} (h : PI X tg e t) (i : ∀ σ H R, t' σ H R → t σ H R) : PI X tg e t' := ⟨fun pins s σ H R I q => h.run pins s σ H R I (i σ H R q)⟩
theorem snd0 : Snd 0 := ⟨fun _ _ _ _ q => by simp [cE] at q, fun _ _ _ _ q => by simp [cT] at q, fun _ _ _ _ _ _ q => by simp [cT] at q, fun _ _ _ _ q => by simp [cTs] at q, fun _ _ _ _ q => by simp [cA] at q, fun _ _ _ _ q => by simp [cP] at q, fun _ _ _ _ _ _ _ _ _ q => by simp [cCall] at q, fun _ _ _ _ _ q => by simp [cI] at q⟩
end
end Pv

/-! Pv.O: soundness of expressions, the steps. -/
namespace Pv
open L2 PySem PyProof.Rows PySem.Spec
section
variable {g : Gx} {W : WX} {fns : Fns} {X : Cx} {c : CC} {n : Nat}
theorem cConst_ok {k : Const} {d : D} {j : Nat} {p : Pos} (h : cConst k = some d) : PE X (.Constant k j p) (tEvE g W fns (IE.con d).den) := by
  unfold cConst at h
  split at h <;> cases h
  · exact PE.imp pe_non fun σ H Q z => evC_imp (fun _ _ _ => .non) z
  · exact PE.imp pe_bl fun σ H Q z => evC_imp (fun _ _ _ => .bl _) z
  · exact PE.imp pe_int fun σ H Q z => evC_imp (fun _ _ _ => .int _) z
  · exact PE.imp pe_str fun σ H Q z => evC_imp (fun _ _ _ => .str _) z
theorem cName_ok (h : XOk c g fns X) {x : Str} {p : Pos} {i : IE} (e : cName c x = some i) : PE X (.Name x p) (tEvE g W fns i.den) := by
  unfold cName at e
  split at e
  · rename_i ok
    obtain ⟨o1, o2, o3⟩ := okName_ok ok
    split at e
    · rename_i vi
      rw [Option.map_eq_some_iff] at e
      obtain ⟨j, e1, rfl⟩ := e
      exact PE.imp (pe_var (by rw [h.hN]; exact idx?_ok e1) (vis_of h vi) o1 o2) fun σ H Q z => evVar_imp z
    · split at e
      · rename_i gl
        split at e
        · rename_i d e1
          cases e
          obtain ⟨u, v, m, r, rp⟩ := h.consts _ _ e1
          exact PE.imp (pe_glob (gl_of h gl) m r o1) fun σ H Q z => evC_imp rp z
        · split at e
          · rename_i hvc
            rw [Option.map_eq_some_iff] at e
            obtain ⟨k, e1, rfl⟩ := e
            obtain ⟨y, n, ed, em⟩ := defNo_ok h e1
            obtain ⟨kk, lv, _⟩ := h.lv
            obtain ⟨f, fd, ps, _, hm, fa, _⟩ := lv.defs k y n ed
            exact PE.imp (pe_glob (v := .ref f) (gl_of h gl) (em.trans hm) rfl o1) fun σ H Q z => evC_imp (fun _ _ _ => .fn fa) z
          · cases e
      · cases e
  · cases e
theorem noArgs_ok {p : Arguments} (h : noArgs p = true) : p = ⟨[], [], none, [], [], none, []⟩ := by
  unfold noArgs at h
  split at h
  · rfl
  · cases h
theorem isText_ok {e : Expr} (h : isText e = true) : ∃ z j p, e = .Constant (.str z) j p := by
  unfold isText at h
  split at h
  · exact ⟨_, _, _, rfl⟩
  · cases h
theorem call_step (S : Snd n) (h : XOk c g fns X) (tk : L2N.Takes X W) (x : Str) (es : List Expr) (i : IE) (p pos : Pos) (ok : okName x = true) (gl : globB c.sc x = true) (e : cCall (n + 1) c x es = some i) : PE X (.Call (.Name x p) es [] pos) (tEvE g W fns i.den) := by
  obtain ⟨o1, o2, o3⟩ := okName_ok ok
  have G := gl_of h gl
  unfold cCall at e
  split at e
  · rename_i k ek
    split at e
    · simp only [Option.bind_eq_bind, Option.bind_eq_some_iff] at e
      obtain ⟨y, ey, e⟩ := e
      split at e
      · rename_i hc
        cases e
        simp only [Bool.and_eq_true, Bool.not_eq_true'] at hc
        obtain ⟨⟨⟨na, lb⟩, hot⟩, nq⟩ := hc
        obtain ⟨kk, lv, r1, r2⟩ := h.lv
        have hr2 : Room (kk + 2) X.A := r2.elim (fun z => by rw [z] at ek; simp at ek) id
        obtain ⟨a, g0, sg, bg, cdv, Ng, cc, P, F, TB, hcode, inT, uT⟩ := h.lam x k ek
        cases noArgs_ok na
        have L := LamX.lamS_by (sc := X.env.scope) (by rw [h.hs]; exact lb)
        exact PE.imp (pe_lamH (k := kk) (t := fun E => tEvE g (fun cls d _ H1 => E cls d H1) fns y.den) G F TB hcode inT uT hr2 L rfl (fun _ _ _ _ _ => rfl)
          (fun A outer s H E f nc hrA => S.e (lam_ok h L hot lv A outer s H E f nc hrA nq) (L2N.takes_of rfl rfl rfl rfl) _ _ ey) o1) fun σ H Q z => evLam_imp z
      · cases e
    · cases e
  · split at e
    · rename_i k ek
      obtain ⟨y', m, ed, hm0⟩ := defNo_ok h ek
      rw [ed] at e
      simp only at e
      split at e
      · cases e
      rename_i hot
      rw [Option.map_eq_some_iff] at e
      obtain ⟨ia, ea, rfl⟩ := e
      obtain ⟨kk, lv, hr, _⟩ := h.lv
      have hr := hr (by simpa using hot)
      obtain ⟨f, fd, ps, F, hm, _, hk, hb⟩ := lv.defs k y' m ed
      have hm := hm0.trans hm
      obtain ⟨pa, _, st⟩ := S.a h tk _ _ ea
      cases es with
      | nil =>
        refine PE.imp (pe_callS0 (E := WE W) F hr G hm hk hb (fun σ => L2N.passAt tk σ) o1) fun σ H Q z => ?_
        have := evCall_imp z
        cases n with
        | zero => simp [cA] at ea
        | succ n =>
          simp only [cA] at ea
          cases ea
          exact nilS_imp this
      | cons a es =>
        have st' := Bool.or_eq_false_iff.mp (by simpa using st : (isStar a || es.any isStar) = false)
        exact PE.imp (pe_callS (E := WE W) F hr G hm hk hb (fun σ => L2N.passAt tk σ) pa o1 (star_of st'.1) (by rw [backTo_any]; exact star_any st'.2)) fun σ H Q z => evCall_imp z
    · split at e
      · rename_i id eid
        split at e
        · rename_i o a es eo
          rw [Option.map_eq_some_iff] at e
          obtain ⟨ia, ea, rfl⟩ := e
          obtain ⟨_, pa, st⟩ := S.a h tk _ _ ea
          have st' := Bool.or_eq_false_iff.mp (by simpa using st : (isStar a || es.any isStar) = false)
          obtain ⟨r, cd, cr⟩ := fOC_ok (g := g) (X := X) eo
          exact PE.imp (pe_callBfun cr G (h.bfs _ _ eid) pa o1 (star_of st'.1) (by rw [backTo_any]; exact star_any st'.2)) fun σ H Q z => tcb_imp cd z
        · cases e
      · split at e
        · rename_i fr
          have hm := h.free _ fr
          split at e
          · rename_i o id ty a es eo
            split at e
            · cases e
            · rename_i hot
              rw [Option.map_eq_some_iff] at e
              obtain ⟨ia, ea, rfl⟩ := e
              obtain ⟨_, pa, st⟩ := S.a h tk _ _ ea
              have st' := Bool.or_eq_false_iff.mp (by simpa using st : (isStar a || es.any isStar) = false)
              obtain ⟨r, cd, cr⟩ := bOC_ok h (by simpa using hot) eo
              cases ty with
              | true =>
                rw [if_pos rfl] at cr
                exact PE.imp (pe_callTy cr.1 G hm cr.2 pa o3 o1 (star_of st'.1) (by rw [backTo_any]; exact star_any st'.2)) fun σ H Q z => tcb_imp cd z
              | false =>
                rw [if_neg Bool.false_ne_true] at cr
                exact PE.imp (pe_callB cr.1 G hm cr.2 pa o3 o1 (star_of st'.1) (by rw [backTo_any]; exact star_any st'.2)) fun σ H Q z => tcb_imp cd z
          · rename_i a T pT eo
            split at e
            · rename_i hx
              simp only [Bool.and_eq_true, Bool.not_eq_true'] at hx
              cases eq_of_beq hx.1
              have sa' : isStar a = false := hx.2
              split at e
              · rename_i hT
                obtain ⟨t1, t2, t3⟩ := okB_ok h hT
                obtain ⟨q1, q2, q3⟩ := okName_ok t1
                simp only [Option.bind_eq_bind, Option.bind_eq_some_iff] at e
                obtain ⟨u, eu, y, ey, e⟩ := e
                cases e
                have pT : PE X (.Name T pT) (tC (.ty u)) := pe_bltn t2 t3 (tyN_ok eu) rfl q3 q1
                exact PE.imp (pe_callB call_isi G hm rfl (pa_cons (S.e h tk _ _ ey) (pa_cons pT pa_nil rfl) (star_of sa')) o3 o1 (star_of sa') rfl) fun σ H Q z => evIsi_imp h.K z
              · split at e
                · rename_i hq
                  simp only [Bool.and_eq_true] at hq
                  obtain ⟨q1, q2, q3⟩ := okName_ok hq.1.2
                  simp only [Option.bind_eq_bind, Option.bind_eq_some_iff] at e
                  obtain ⟨tbl, eu, y, ey, e⟩ := e
                  cases e
                  obtain ⟨a0, x0, ex, cr, sb⟩ := h.exn hq.1.1
                  obtain ⟨Ca, m1, m2⟩ := sb _ _ eu
                  have pT : PE X (.Name T pT) (tC (.ref Ca)) := pe_glob (v := .ref Ca) (gl_of h hq.2) m1 rfl q1
                  exact PE.imp (pe_callB cr G hm rfl (pa_cons (S.e h tk _ _ ey) (pa_cons pT pa_nil rfl) (star_of sa')) o3 o1 (star_of sa') rfl) fun σ H Q z => evIsE_imp ex ⟨.ref Ca, fun u r => by cases r; rfl, m2⟩ z
                · cases e
            · cases e
          · cases e
        · cases e
theorem callV_ok (S : Snd n) (h : XOk c g fns X) (tk : L2N.Takes X W) {x : Str} {es : List Expr} {p pos : Pos} {j : Nat} {as : IA} (ok : okName x = true) (vi : visB c.sc x = true) (hvc : c.P.vc = true) (hot : c.P.hot = false) (ej : idx? c.N x = some j) (ea : cA n c es = some as) :
    PE X (.Call (.Name x p) es [] pos) (tEvE g W fns (IE.callV j es.length as).den) := by
  obtain ⟨q1, q2, q3⟩ := okName_ok ok
  obtain ⟨kk, lv, hr, _⟩ := h.lv
  have hr := hr hot
  obtain ⟨pa, _, st⟩ := S.a h tk _ _ ea
  have hj := idx?_ok ej
  rw [← h.hN] at hj
  have hkp : ∀ f, (∃ k, g.fa k = some f) → PySem.W.keepIn X.K (.ref f) = true := fun f ⟨k, e⟩ => (lv.vc hvc k f e).1
  have A : ∀ n f sp, (∃ k, g.fa k = some f) → SV g fns n f sp → ∃ kk fd ps, FnOk X.prog X.w X.K X.mg X.base (L2N.CX X.prog X.w) kk f fd ps sp ∧ Room kk X.A ∧ Binds X.K fd ps [] := fun n f sp _ ⟨k, e, es, ns⟩ => by
    obtain ⟨fd, ps, F, hb⟩ := (lv.vc hvc k f e).2 n ns
    subst es
    exact ⟨kk, fd, ps, F, hr, hb⟩
  cases es with
  | nil =>
    refine PE.imp (pe_callV0 (E := WE W) hkp (A 0) (fun σ => L2N.passAt tk σ) hj (vis_of h vi) q1 q2) fun σ H Q z => ?_
    obtain ⟨f, k, e1, e2, z⟩ := evCallV_imp z
    cases n with
    | zero => simp [cA] at ea
    | succ n =>
      simp only [cA] at ea
      cases ea
      exact ⟨f, e1, ⟨k, e2⟩, nilS_imp z⟩
  | cons a es =>
    have st' := Bool.or_eq_false_iff.mp (by simpa using st : (isStar a || es.any isStar) = false)
    refine PE.imp (pe_callV (E := WE W) hkp (A (a :: es).length) (fun σ => L2N.passAt tk σ) hj (vis_of h vi) pa q1 q2 (star_of st'.1) (by rw [backTo_any]; exact star_any st'.2)) fun σ H Q z => ?_
    obtain ⟨f, k, e1, e2, z⟩ := evCallV_imp z
    exact ⟨f, e1, ⟨k, e2⟩, z⟩
theorem e_step (S : Snd n) (h : XOk c g fns X) (tk : L2N.Takes X W) (x : Expr) (i : IE) (q : cE (n + 1) c x = some i) : PE X x (tEvE g W fns i.den) := by
  unfold cE at q
  split at q
  · exact cName_ok h q
  · rw [Option.map_eq_some_iff] at q
    obtain ⟨d, e1, rfl⟩ := q
    exact cConst_ok e1
  · simp only [Option.bind_eq_bind, Option.bind_eq_some_iff] at q
    obtain ⟨o, eo, a, ea, b, eb, q⟩ := q
    cases q
    obtain ⟨r, o1, o2⟩ := binO_ok h.K eo
    exact pe_evOp o1 o2 (S.e h tk _ _ ea) (S.e h tk _ _ eb)
  · rw [Option.map_eq_some_iff] at q
    obtain ⟨a, ea, rfl⟩ := q
    exact pe_evUn un_neg negD_ok (S.e h tk _ _ ea)
  · rw [Option.map_eq_some_iff] at q
    obtain ⟨a, ea, rfl⟩ := q
    exact PE.imp (pe_notT (S.e h tk _ _ ea)) fun σ H Q z => evNotV_imp h.K z
  · exact pe_one (S.e h tk _ _ q)
  · simp only [Option.bind_eq_bind, Option.bind_eq_some_iff] at q
    obtain ⟨a, ea, b, eb, q⟩ := q
    cases q
    exact PE.imp (pe_andT (S.e h tk _ _ ea) (S.e h tk _ _ eb)) fun σ H Q z => evAndV_imp h.K z
  · simp only [Option.bind_eq_bind, Option.bind_eq_some_iff] at q
    obtain ⟨a, ea, b, eb, q⟩ := q
    cases q
    exact PE.imp (pe_orT (S.e h tk _ _ ea) (S.e h tk _ _ eb)) fun σ H Q z => evOrV_imp h.K z
  · simp only [Option.bind_eq_bind, Option.bind_eq_some_iff] at q
    obtain ⟨o, eo, a, ea, b, eb, q⟩ := q
    split at q
    · cases q
    · rename_i hm
      cases q
      obtain ⟨r, o1, o2⟩ := cmpO_ok h.K h.hu eo
      exact pe_evCmp o1 o2 (by simpa using hm) (S.e h tk _ _ ea) (S.e h tk _ _ eb)
  · simp only [Option.bind_eq_bind, Option.bind_eq_some_iff] at q
    obtain ⟨o, eo, o', eo', a, ea, b, eb, d, ed, q⟩ := q
    split at q
    · cases q
    · rename_i hm
      cases q
      obtain ⟨r, o1, o2⟩ := cmpO_ok h.K h.hu eo
      obtain ⟨r', o1', o2'⟩ := cmpO_ok h.K h.hu eo'
      exact PE.imp (pe_chain o1 o1' (S.e h tk _ _ ea) (S.e h tk _ _ eb) (S.e h tk _ _ ed) (by simpa using hm)) fun σ H Q z => evChain_imp o2 o2' z
  · simp only [Option.bind_eq_bind, Option.bind_eq_some_iff] at q
    obtain ⟨u, eu, a, ea, b, eb, q⟩ := q
    cases q
    exact PE.imp (pe_ifExp (S.t h tk _ _ eu) (S.e h tk _ _ ea) (S.e h tk _ _ eb)) fun σ H Q z => evIf_imp z
  · rw [Option.map_eq_some_iff] at q
    obtain ⟨a, ea, rfl⟩ := q
    exact PE.imp (pe_tup (S.a h tk _ _ ea).1) fun σ H Q z => evTup_imp z
  · rw [Option.map_eq_some_iff] at q
    obtain ⟨a, ea, rfl⟩ := q
    exact PE.imp (pe_lst (S.a h tk _ _ ea).1) fun σ H Q z => evLst_imp z
  · split at q <;> cases q
    · exact PE.imp pe_dnewT fun σ H Q z => evDnewT_imp z
    · exact PE.imp pe_dnewK fun σ H Q z => evDnewK_imp z
  · rw [Option.map_eq_some_iff] at q
    obtain ⟨a, ea, rfl⟩ := q
    exact PE.imp (pe_revA (S.e h tk _ _ ea)) fun σ H Q z => by rw [h.K]; exact evRev_imp z
  · simp only [Option.bind_eq_bind, Option.bind_eq_some_iff] at q
    obtain ⟨a, ea, l, el, u, eu, q⟩ := q
    cases q
    exact PE.imp (pe_slice sl_all (S.e h tk _ _ ea) (S.p h tk _ _ el) (S.p h tk _ _ eu)) fun σ H Q z => evSl_imp h.K z
  · simp only [Option.bind_eq_bind, Option.bind_eq_some_iff] at q
    obtain ⟨a, ea, b, eb, q⟩ := q
    split at q
    · cases q
    · rename_i hm
      cases q
      exact PE.imp (pe_ix (ix_all h.hu) (S.e h tk _ _ ea) (S.e h tk _ _ eb) (plainIx_of (by simpa using hm))) fun σ H Q z => by rw [h.K]; exact evIx_imp z
  · split at q
    · rename_i hc
      simp only [Bool.and_eq_true] at hc
      exact S.c h tk _ _ _ _ _ hc.1 hc.2 q
    · split at q
      · rename_i hc
        simp only [Bool.and_eq_true, Bool.not_eq_true'] at hc
        split at q
        · rename_i j as ej ea
          cases q
          exact callV_ok S h tk hc.1.1.1 hc.1.1.2 hc.1.2 hc.2 ej ea
        · cases q
      · cases q
  · simp only [Option.bind_eq_bind, Option.bind_eq_some_iff] at q
    obtain ⟨x1, e1, x2, e2, q⟩ := q
    split at q
    · rename_i hc
      simp only [Bool.and_eq_true, Bool.not_eq_true'] at hc
      cases q
      cases eq_of_beq hc.1.1.1
      obtain ⟨z, j, p0, eo⟩ := isText_ok hc.1.1.2
      exact PE.imp (pe_join (S.e h tk _ _ e1) (S.e h tk _ _ e2) (star_of (es := []) hc.1.2) (by rw [eo]; rfl) hc.2) fun σ H Q z => evJoin_imp h.K z
    · cases q
  · simp only [Option.bind_eq_bind, Option.bind_eq_some_iff] at q
    obtain ⟨src, es, t, et, ts, ets, el, eel, q⟩ := q
    split at q
    · rename_i hc
      cases q
      simp only [Bool.and_eq_true, Bool.not_eq_true'] at hc
      have hb := blkOk_by hc.1.1
      have hix : ∀ j ∈ t.ix, j ∈ (blkOwn c.N _).map (·.2) := fun j hj => by
        have := List.all_eq_true.mp hc.1.2 j hj
        simpa using this
      cases hot : c.P.hot with
      | false =>
        unfold pickI at es
        rw [hot, if_neg Bool.false_ne_true] at es
        exact PE.imp (pe_lc (h.calm hot) h.nd (S.i h tk _ _ _ es) (by rw [h.hN, h.hs]; exact hb) (fun s H C cl fp => (tgt_sound (blk_ok h hb hot s H C cl fp) n).1 _ _ et) (fun s H C cl fp => S.ts (blk_ok h hb hot s H C cl fp) takes0 _ _ ets)
          (fun s H C cl fp => S.e (blk_ok h hb hot s H C cl fp) takes0 _ _ eel) (set_of hc.2 _)) fun σ H Q z => evLc_imp hix z
      | true =>
        unfold pickI at es
        rw [hot, if_pos rfl, Option.map_eq_some_iff] at es
        obtain ⟨l, el, rfl⟩ := es
        exact PE.imp (pe_lcH (h.hotC hot) h.nd (S.e h tk _ _ el) (by rw [h.hN, h.hs]; exact hb) (fun s H C cl fp p hp => (tgt_sound (blkH_ok h hb hot s H C cl fp p hp) n).1 _ _ et) (fun s H C cl fp p hp => S.ts (blkH_ok h hb hot s H C cl fp p hp) takes0 _ _ ets)
          (fun s H C cl fp p hp => S.e (blkH_ok h hb hot s H C cl fp p hp) takes0 _ _ eel) (set_of hc.2 _)) fun σ H Q z => tLc_imp (fun R z => evItH_imp h.K z) (evLc_imp hix z)
    · cases q
  · cases q
theorem a_step (S : Snd n) (h : XOk c g fns X) (tk : L2N.Takes X W) (x : List Expr) (i : IA) (q : cA (n + 1) c x = some i) : PA X x (tEvAS g W fns i.denS) ∧ PA X x (tEvAC g W fns i.denC) ∧ x.any isStar = false := by
  unfold cA at q
  split at q
  · cases q
    exact ⟨PA.imp pa_nil fun σ H Q z => nilS_imp z, PA.imp pa_nil fun σ H Q z => nilC_imp z, rfl⟩
  · simp only [Option.bind_eq_bind, Option.bind_eq_some_iff] at q
    obtain ⟨a, ea, r, er, q⟩ := q
    split at q
    · cases q
    · rename_i hm
      cases q
      have hm' := by simpa using hm
      obtain ⟨p1, p2, p3⟩ := S.a h tk _ _ er
      have pe := S.e h tk _ _ ea
      refine ⟨PA.imp (pa_cons pe p1 (star_of hm')) fun σ H Q z => consS_imp z, PA.imp (pa_cons pe p2 (star_of hm')) fun σ H Q z => consC_imp z, ?_⟩
      rw [List.any_cons, hm', p3]
      rfl
theorem p_step (S : Snd n) (h : XOk c g fns X) (tk : L2N.Takes X W) (x : Option Expr) (i : IP) (q : cP (n + 1) c x = some i) : PO X x (tEvO g W fns i.den) := by
  unfold cP at q
  split at q
  · cases q
    exact po_none
  · rw [Option.map_eq_some_iff] at q
    obtain ⟨a, ea, rfl⟩ := q
    exact po_some (S.e h tk _ _ ea)
theorem w_step (S : Snd n) (h : XOk c g fns X) (tk : L2N.Takes X W) (o : BoolOp) (es : List Expr) (p : Pos) (i : IT) (q : cT (n + 1) c (.BoolOp o es p) = some i) : PW X (.BoolOp o es p) (tEvT g W fns i.den) := by
  cases o with
  | And =>
    match es, q with
    | [], q => simp [cT, plainT] at q
    | [a], q =>
      simp only [cT] at q
      exact pw_and1 (S.t h tk _ _ q)
    | a :: b :: r, q =>
      simp only [cT, Option.bind_eq_bind, Option.bind_eq_some_iff] at q
      obtain ⟨x, ex, y, ey, q⟩ := q
      cases q
      exact PW.imp (pw_and (S.t h tk _ _ ex) (S.w h tk _ _ _ _ ey)) fun σ H Q z => evAndT_imp z
  | Or =>
    match es, q with
    | [], q => simp [cT, plainT] at q
    | [a], q =>
      simp only [cT] at q
      exact pw_or1 (S.t h tk _ _ q)
    | a :: b :: r, q =>
      simp only [cT, Option.bind_eq_bind, Option.bind_eq_some_iff] at q
      obtain ⟨x, ex, y, ey, q⟩ := q
      cases q
      exact PW.imp (pw_or (S.t h tk _ _ ex) (S.w h tk _ _ _ _ ey)) fun σ H Q z => evOrT_imp z
theorem t_step (S : Snd n) (h : XOk c g fns X) (tk : L2N.Takes X W) (x : Expr) (i : IT) (q : cT (n + 1) c x = some i) : PT X x (tEvT g W fns i.den) := by
  cases x with
  | BoolOp o es p => exact (w_step S h tk o es p i q).pt
  | UnaryOp o a p =>
    cases o with
    | Not =>
      simp only [cT, Option.map_eq_some_iff] at q
      obtain ⟨a, ea, rfl⟩ := q
      exact PT.imp (pt_not (S.t h tk _ _ ea)) fun σ H Q z => evNotT_imp z
    | _ => simp [cT, plainT] at q
  | Compare a ops bs p =>
    unfold cT at q
    split at q
    all_goals (rename_i e; first | (cases e; done) | skip)
    · cases e
      simp only [Option.bind_eq_bind, Option.bind_eq_some_iff] at q
      obtain ⟨o, eo, a, ea, b, eb, q⟩ := q
      split at q
      · cases q
      · rename_i hm
        cases q
        obtain ⟨r, o1, o2⟩ := cmpO_ok h.K h.hu eo
        exact pt_evCmp o1 o2 (by simpa using hm) (S.e h tk _ _ ea) (S.e h tk _ _ eb)
    · cases e
      simp only [Option.bind_eq_bind, Option.bind_eq_some_iff] at q
      obtain ⟨o, eo, o', eo', a, ea, b, eb, d, ed, q⟩ := q
      split at q
      · cases q
      · rename_i hm
        cases q
        obtain ⟨r, o1, o2⟩ := cmpO_ok h.K h.hu eo
        obtain ⟨r', o1', o2'⟩ := cmpO_ok h.K h.hu eo'
        refine PT.imp (pt_chain o1 o1' (S.e h tk _ _ ea) (S.e h tk _ _ eb) (S.e h tk _ _ ed) (by simpa using hm)) fun σ H Q z => ?_
        exact evChain_imp o2 o2' (evTst_imp z)
    · simp [plainT] at q
  | _ =>
    simp only [cT] at q
    split at q
    · rename_i hp
      rw [Option.map_eq_some_iff] at q
      obtain ⟨a, ea, rfl⟩ := q
      exact pt_evTru h.K (S.e h tk _ _ ea) (plainT_ok hp)
    · cases q
theorem ts_step (S : Snd n) (h : XOk c g fns X) (tk : L2N.Takes X W) (x : List Expr) (i : IT) (q : cTs (n + 1) c x = some i) : PTs X x (tEvT g W fns i.den) := by
  unfold cTs at q
  split at q
  · cases q
    exact ⟨fun pins s σ H Q I z => pts_nil.run pins s σ H Q I (evYes_imp z)⟩
  · exact pts_one (S.t h tk _ _ q)
  · cases q
theorem i_step (S : Snd n) (h : XOk c g fns X) (tk : L2N.Takes X W) (tg x : Expr) (i : II) (q : cI (n + 1) c tg x = some i) : PI X tg x (tEvI g W fns i.den) := by
  have gen : ∀ {i : II}, (cE n c x).map II.it = some i → PI X tg x (tEvI g W fns i.den) := fun q => by
    rw [Option.map_eq_some_iff] at q
    obtain ⟨a, ea, rfl⟩ := q
    exact PI.imp (pi_seq (S.e h tk _ _ ea)) fun σ H R z => evIt_imp h.K z
  unfold cI at q
  split at q
  · split at q
    · rename_i hx
      cases eq_of_beq hx
      split at q
      · rename_i ok
        obtain ⟨t1, t2, t3⟩ := okB_ok h ok
        split at q
        · simp only [Option.bind_eq_bind, Option.bind_eq_some_iff] at q
          obtain ⟨a, ea, q⟩ := q
          split at q
          · cases q
          · rename_i hm
            cases q
            exact PI.imp (pi_range1 t2 t3 (pa_cons (S.e h tk _ _ ea) pa_nil (star_of (by simpa using hm))) (star_of (by simpa using hm))) fun σ H R z => evRng1_imp z
        · simp only [Option.bind_eq_bind, Option.bind_eq_some_iff] at q
          obtain ⟨a, ea, b, eb, q⟩ := q
          split at q
          · cases q
          · rename_i hm
            cases q
            simp only [Bool.or_eq_true, not_or, Bool.not_eq_true] at hm
            have sb := star_of (env := X.env) (es := []) hm.2
            exact PI.imp (pi_range2 t2 t3 (pa_cons (S.e h tk _ _ ea) (pa_cons (S.e h tk _ _ eb) pa_nil sb) (star_of hm.1)) (by rw [star_of hm.1, sb]; rfl) sb) fun σ H R z => evRng2_imp z
        · cases q
      · cases q
    · split at q
      · rename_i hx
        cases eq_of_beq hx
        split at q
        · rename_i ok
          obtain ⟨t1, t2, t3⟩ := okB_ok h ok
          split at q
          · rw [Option.map_eq_some_iff] at q
            obtain ⟨ia, ea, rfl⟩ := q
            obtain ⟨pa, _, st⟩ := S.a h tk _ _ ea
            rename_i a b es kk pp _
            have st' := Bool.or_eq_false_iff.mp (by simpa using st : (isStar a || isStar b) = false)
            have sb := star_of (env := X.env) (es := []) st'.2
            exact PI.imp (RZ.pi_zipA t2 t3 pa (star_of st'.1) (by rw [sb]; rfl)) fun σ H R z => evZip_imp h.K z
          · cases q
        · cases q
      · split at q
        · rename_i hx
          cases eq_of_beq hx
          split at q
          · rename_i ok
            obtain ⟨t1, t2, t3⟩ := okB_ok h ok
            split at q
            · rw [Option.map_eq_some_iff] at q
              obtain ⟨ia, ea, rfl⟩ := q
              obtain ⟨pa, _, st⟩ := S.a h tk _ _ ea
              rename_i a es kk pp
              exact PI.imp (pi_enumA t2 t3 pa (star_of (by simpa using st))) fun σ H R z => evEnumA_imp h.K z
            · cases q
          · cases q
        · exact gen q
  · exact gen q
theorem snd_all : ∀ n, Snd n
  | 0 => snd0
  | n + 1 => have S := snd_all n; ⟨fun h tk x i q => e_step S h tk x i q, fun h tk x i q => t_step S h tk x i q, fun h tk o es p i q => w_step S h tk o es p i q, fun h tk x i q => ts_step S h tk x i q,
      fun h tk x i q => a_step S h tk x i q, fun h tk x i q => p_step S h tk x i q, fun h tk x es i p pos o gl q => call_step S h tk x es i p pos o gl q, fun h tk tg x i q => i_step S h tk tg x i q⟩
end
end Pv

/-! Pv.P: statements from the text, and that they mean what the text means. -/
namespace Pv
open L2 PySem PyProof.Rows PySem.Spec

def isComp : Expr → Bool
  | .ListComp .. => true
  | .SetComp .. => true
  | .DictComp .. => true
  | _ => false
def isTupE : Expr → Bool
  | .Tuple .. => true
  | _ => false
def parNames (sc : Scope) (ts : List Expr) : List Str := ts.filterMap fun
    | .Name id pos => if sc.names.lookup id == some .local && pos.line == (ts.head?.map (·.pos.line)).getD 0 then some id else none
    | _ => none
def parOk (sc : Scope) (ts vs : List Expr) : Option Bool :=
  if !(ts.length == 2 || ts.length == 3) || vs.length != ts.length then some false
  else if vs.any isStar then some false
  else if (parNames sc ts).length != ts.length || (parNames sc ts).eraseDups.length != (parNames sc ts).length then some false
  else if vs.all (foldedForSure 8) then some false
  else if vs.all (constantsAlone 8) then none
  else some true
def swB (sc : Scope) (t : Str) (tl vl : Nat) (scope : Scope) : Bool := sc.names.lookup t == some .local && tl == vl && !scope.names.any fun (n, k) => n == t && (k == .local || k == .cell)
/-- is it a call whose result becomes a box? -/
def isBoxer (c : CC) : Expr → Bool
  | .Call (.Name f _) _ _ _ => c.P.boxers.contains f
  | _ => false
def cAppend (n : Nat) (c : CC) (e : Expr) : Option IS := match e with
  | .Call (.Attribute (.Name x _) nm ap) [a] [] cp =>
    if nm == ("append" : Str) && okName x && visB c.sc x && !isStar a && ap.endLine == cp.line then do
      let i ← idx? c.N x
      let y ← cE n c a
      some (.append i y)
    else none
  | _ => none
def cAsgN (n : Nat) (c : CC) (x : Str) (e : Expr) : Option IS := do
  let i ← ixOf? c x
  let y ← cE n c e
  if isComp e && c.P.hot then none else if isBoxer c e then some (.boxAsg i y) else some (.asg i y)
def cStore (n : Nat) (c : CC) (x : Str) (k e : Expr) : Option IS :=
  if okName x && visB c.sc x && !isSlice k then do
    let i ← idx? c.N x
    let y ← cE n c e
    match k with
    | .Tuple es _ _ => do
      let a ← cA n c es
      some (.storeT i a y)
    | k => do
      let z ← cE n c k
      some (.store i z y)
  else none
def isNew : Expr → Bool
  | .List .. => true
  | .ListComp .. => true
  | .Dict .. => true
  | _ => false
def cParO (n : Nat) (c : CC) (i j : Nat) (vs : List Expr) : Option IS := match vs with
  | [a, b] => do
    let x ← cE n c a
    let y ← cE n c b
    if isStar a || isStar b then none else some (.parO i j x y)
  | _ => none
def cPar (n : Nat) (c : CC) (ts vs : List Expr) : Option IS := match ts with
  | [.Name x _, .Name y _] => do
    let i ← idx? c.N x
    let j ← idx? c.N y
    let a ← (if vs.any isNew then cParO n c i j vs else (cA n c vs).map (.par [i, j]))
    if lclB c.sc x && lclB c.sc y && i != j && !c.P.hot then some a else none
  | [.Name x _, .Name y _, .Name z _] => do
    let i ← idx? c.N x
    let j ← idx? c.N y
    let l ← idx? c.N z
    let a ← cA n c vs
    if lclB c.sc x && lclB c.sc y && lclB c.sc z && i != j && i != l && j != l && !c.P.hot then some (.par [i, j, l] a) else none
  | _ => none
def cAsgG (n : Nat) (c : CC) (tg e : Expr) : Option IS := do
  let t ← cTgt n c tg
  let y ← cE n c e
  some (.asgG t y)
def cAsgT (n : Nat) (c : CC) (tg : Expr) (ts : List Expr) (e : Expr) : Option IS := match e with
  | .Tuple vs _ _ => match parOk c.sc ts vs with
    | some true => cPar n c ts vs
    | some false => cAsgG n c tg e
    | none => none
  | _ => cAsgG n c tg e
mutual
def cS : Nat → CC → Stmt → Option IS
  | 0, _, _ => none
  | n + 1, c, s => match s with
    | .Pass _ => some .skip
    | .Break _ => some .brk
    | .Continue _ => some .cnt
    | .Expr (.Constant (.str _) _ _) _ => some .skip
    | .Expr (.Call (.Name f fp) es kw p) _ => (cE n c (.Call (.Name f fp) es kw p)).map .expr
    | .Expr e _ => cAppend n c e
    | .Return none _ => some .retN
    | .Return (some e) _ => (cE n c e).map .ret
    | .If t a b _ => do
      let u ← cT n c t
      let x ← cSs n c a
      let y ← cSs n c b
      some (.ite u x y)
    | .For tg it b [] _ => do
      let src ← cI n c tg it
      let t ← cTgt n c tg
      let x ← cSs n c b
      if isSet it || c.P.hot then none else some (.for_ src t x)
    | .While t b [] _ => do
      let u ← cT n c t
      let x ← cSs n c b
      if c.P.hot then none else some (.while_ u x)
    | .Raise (some (.Call (.Name x _) [.Constant (.str _) _ _] [] _)) none _ => if okName x && globB c.sc x && !c.P.hot then (idx? c.P.cls x).map .raise else none
    | .Assign [.Name x _] e _ => cAsgN n c x e
    | .Assign [.Subscript (.Name x _) k _] e _ => cStore n c x k e
    | .Assign [.Tuple ts k p] e _ => cAsgT n c (.Tuple ts k p) ts e
    | _ => none
def cSs : Nat → CC → List Stmt → Option IS
  | 0, _, _ => none
  | n + 1, c, ss => match ss with
    | [] => some .skip
    | [s] => cS n c s
    | s :: ss => do
      let x ← cS n c s
      let y ← cSs n c ss
      some (.seq x y)
end

structure XOkS (c : CC) (g : Gx) (fns : Fns) (X : Cx) : Prop extends XOk c g fns X where
  own : c.P.hot = false → PassesOwn (model X.prog X.w) X.A X.env X.xe
  cls : c.P.hot = false → ∀ i x, c.P.cls[i]? = some x → (x == ("__debug__" : Str)) = false → Gl X x → ∀ m j p p2 pos, L2N.PMk X (.Call (.Name x p) [.Constant (.str m) j p2] [] pos) fun _ H Q => Q (.ref (g.ca i)) none H

section
variable {g : Gx} {W : WX} {fns : Fns} {fuel : Nat} {X : Cx} {c : CC} {n : Nat}
theorem sw_false {e : Expr} {t : Expr} {n : Nat} {env : Env} (h : isComp e = false) : swapsWith e (some t) n env = pure false := by
  cases e <;> first | rfl | cases h
theorem sw_none {e : Expr} {n : Nat} {env : Env} (h : isComp e = false) : swapsWith e none n env = pure false := by
  cases e <;> first | rfl | cases h
theorem sw_tup {e : Expr} {ts k p} {n : Nat} {env : Env} : swapsWith e (some (.Tuple ts k p)) n env = pure false := by
  cases e <;> rfl
theorem sw_sub {e : Expr} {o i p} {n : Nat} {env : Env} : swapsWith e (some (.Subscript o i p)) n env = pure false := by
  cases e <;> rfl
theorem sws_tup {e : Expr} {ts k p} {n : Nat} {env : Env} : swapsWithSole [.Tuple ts k p] e n env = pure false := by
  cases e <;> rfl
theorem sws_sub {e : Expr} {o i p} {n : Nat} {env : Env} : swapsWithSole [.Subscript o i p] e n env = pure false := by
  cases e <;> rfl
theorem ss_sub {e : Expr} {o i p} {env : Env} : swappedStores [.Subscript o i p] e env = pure none := by
  cases e <;> rfl
theorem ss_tup {e : Expr} {ts k p} {env : Env} (h : isTupE e = false) : swappedStores [.Tuple ts k p] e env = pure none := by
  cases e <;> first | rfl | cases h
theorem sw_lc {elt gens scope p t pt} {n : Nat} {env : Env} (hb : env.blockKind = .function) : swapsWith (.ListComp elt gens scope p) (some (.Name t pt)) n env = pure (swB env.scope t pt.line p.line scope) := by
  show pure _ = _
  rw [hb]
  rfl
theorem as_sub {o i : Expr} {pos : Pos} {env : Env} (h : isSlice i = false) : ∀ v, assign (.Subscript o i pos) env v = (do
      let ov ← holding [v] (eval o env)
      let iv ← holding [v, ov] (eval i env)
      standAt pos
      holding [v, ov, iv] (setItem ov iv v)
      release [v, ov, iv] []) := by
  intro v
  cases i <;> first | rfl | cases h
theorem sw_eq {env : Env} {ts vs : List Expr} {k p k2 p2} (hb : env.blockKind = .function) : swappedStores [.Tuple ts k p] (.Tuple vs k2 p2) env =
    (if !(ts.length == 2 || ts.length == 3) || vs.length != ts.length then pure none
     else if vs.any isStar then pure none
     else if (parNames env.scope ts).length != ts.length || (parNames env.scope ts).eraseDups.length != (parNames env.scope ts).length then pure none
     else if vs.all (foldedForSure 8) then pure none
     else if vs.all (constantsAlone 8) then (do unsupported "assign.tuple-of-constant-expressions:order-of-the-stores"; return some (parNames env.scope ts))
     else pure (some (parNames env.scope ts))) := by
  unfold swappedStores
  simp only [hb]
  show (if _ then _ else _) = _
  congr 1
  · simp
theorem lclB_nm {sc : Scope} {x : Str} (h : lclB sc x = true) : (sc.names.lookup x == some NameKind.local) = true := by
  rw [lclB_ok h]; rfl

/-- an assignment of a comprehension -/
theorem lc_asg (h : XOk c g fns X) (tk : L2N.Takes X W) (hot : c.P.hot = false) {elt tg iter : Expr} {ifs : List Expr} {scope : Scope} {p py spos : Pos} {y : Str} {i : IE} {j : Nat} (hj : X.N[j]? = some y) (hl : X.env.scope.names.lookup y = some .local)
    (hw : swapsWith (.ListComp elt [⟨tg, iter, ifs, 0⟩] scope p) (some (.Name y py)) spos.line X.env = pure true) (q : cE n c (.ListComp elt [⟨tg, iter, ifs, 0⟩] scope p) = some i) :
    PS X (.Assign [.Name y py] (.ListComp elt [⟨tg, iter, ifs, 0⟩] scope p) spos) (tAsg (tEvE g W fns i.den) (gName j)) := by
  cases n with
  | zero => simp [cE] at q
  | succ n =>
    have S := snd_all n
    simp only [cE, Option.bind_eq_bind, Option.bind_eq_some_iff] at q
    obtain ⟨src, es, t, et, ts, ets, el, eel, q⟩ := q
    split at q
    · rename_i hc
      cases q
      simp only [Bool.and_eq_true, Bool.not_eq_true'] at hc
      have hb := blkOk_by hc.1.1
      unfold pickI at es
      rw [hot, if_neg Bool.false_ne_true] at es
      refine PS.imp (ps_setLc (h.calm hot) h.nd hj hl hw (S.i h tk _ _ _ es) (by rw [h.hN, h.hs]; exact hb) (fun s H C cl fp => (tgt_sound (blk_ok h hb hot s H C cl fp) n).1 _ _ et) (fun s H C cl fp => S.ts (blk_ok h hb hot s H C cl fp) takes0 _ _ ets)
        (fun s H C cl fp => S.e (blk_ok h hb hot s H C cl fp) takes0 _ _ eel) (set_of hc.2 _)) fun D σ H z => evLc_imp (fun j hj => ?_) z
      have := List.all_eq_true.mp hc.1.2 j hj
      simpa using this
    · cases q
theorem bk_X (h : XOk c g fns X) : X.env.blockKind = .function := bk_of (by rw [h.hs]; exact h.kd)
/-- an assignment to a name -/
theorem asgN_any (h : XOk c g fns X) (tk : L2N.Takes X W) {x : Str} {px spos : Pos} {e : Expr} {i : IE} {j : Nat} (nh : (isComp e && c.P.hot) = false) (ej : ixOf? c x = some j) (q : cE n c e = some i) : PS X (.Assign [.Name x px] e spos) (tAsg (tEvE g W fns i.den) (gName j)) := by
  obtain ⟨a, b, d⟩ := ixOf_ok h ej
  by_cases hc : isComp e = true
  · have hot : c.P.hot = false := by rw [hc, Bool.true_and] at nh; exact nh
    cases e with
    | ListComp elt gens scope p =>
      have hw := sw_lc (elt := elt) (gens := gens) (scope := scope) (p := p) (t := x) (pt := px) (n := spos.line) (bk_X h)
      cases hs : swB X.env.scope x px.line p.line scope with
      | false =>
        rw [hs] at hw
        exact ps_set h.nd a b ((snd_all n).e h tk _ _ q) hw d
      | true =>
        rw [hs] at hw
        have hl : X.env.scope.names.lookup x = some .local := by
          unfold swB at hs
          simp only [Bool.and_eq_true] at hs
          exact eq_of_beq hs.1.1
        have gq : ∃ tg iter ifs, gens = [⟨tg, iter, ifs, 0⟩] := by
          cases n with
          | zero => simp [cE] at q
          | succ n =>
            unfold cE at q
            split at q <;> rename_i z <;> first | (cases z; done) | skip
            · cases z; exact ⟨_, _, _, rfl⟩
            · cases q
        obtain ⟨tg, iter, ifs, rfl⟩ := gq
        exact lc_asg h tk hot a hl hw q
    | SetComp => cases n <;> simp [cE] at q
    | DictComp => cases n <;> simp [cE] at q
    | _ => cases hc
  · have hc' : isComp e = false := by simpa using hc
    exact ps_set h.nd a b ((snd_all n).e h tk _ _ q) (sw_false hc') d
theorem append_ok (h : XOk c g fns X) (tk : L2N.Takes X W) {e : Expr} {pos : Pos} {i : IS} (q : cAppend n c e = some i) : PS X (.Expr e pos) (tEvS g W fns fuel i.den) := by
  unfold cAppend at q
  split at q
  · split at q
    · rename_i hc
      simp only [Bool.and_eq_true, Bool.not_eq_true'] at hc
      simp only [Option.bind_eq_bind, Option.bind_eq_some_iff] at q
      obtain ⟨j, ej, y, ey, q⟩ := q
      cases q
      obtain ⟨⟨⟨⟨h1, h2⟩, h3⟩, h4⟩, h5⟩ := hc
      cases eq_of_beq h1
      obtain ⟨o1, o2, o3⟩ := okName_ok h2
      refine PS.imp (ps_expr (pe_bm PySem.F.plainAttrs_list PySem.F.slot_list_append PySem.F.type_list_append mt_append (pe_var (by rw [h.hN]; exact idx?_ok ej) (vis_of h h3) o1 o2) (pa_cons ((snd_all n).e h tk _ _ ey) pa_nil (star_of h4)) rfl (by rw [star_of h4]; rfl) h5 (star_of h4) rfl) (sw_none rfl)) fun D σ H z => ?_
      rw [h.K]
      exact tEvS_append z
    · cases q
  · cases q
theorem store_ok (h : XOk c g fns X) (tk : L2N.Takes X W) {x : Str} {px p pos : Pos} {k e : Expr} {i : IS} (q : cStore n c x k e = some i) : PS X (.Assign [.Subscript (.Name x px) k p] e pos) (tEvS g W fns fuel i.den) := by
  unfold cStore at q
  split at q
  · rename_i hc
    simp only [Bool.and_eq_true, Bool.not_eq_true'] at hc
    obtain ⟨⟨h1, h2⟩, h3⟩ := hc
    obtain ⟨o1, o2, o3⟩ := okName_ok h1
    simp only [Option.bind_eq_bind, Option.bind_eq_some_iff] at q
    obtain ⟨j, ej, y, ey, q⟩ := q
    have S := snd_all n
    have pv : PE X (.Name x px) (tVar j) := pe_var (by rw [h.hN]; exact idx?_ok ej) (vis_of h h2) o1 o2
    split at q
    · simp only [Option.bind_eq_some_iff] at q
      obtain ⟨a, ea, q⟩ := q
      cases q
      refine PS.imp (ps_asg (S.e h tk _ _ ey) (pg_sub pv (pe_tup (S.a h tk _ _ ea).1) (set_all h.hu) (as_sub h3)) sws_sub ss_sub ?_) fun D σ H z => tEvS_storeT z
      rw [assignEach_of rfl]
      rfl
    · simp only [Option.bind_eq_some_iff] at q
      obtain ⟨a, ea, q⟩ := q
      cases q
      refine PS.imp (ps_asg (S.e h tk _ _ ey) (pg_sub pv (S.e h tk _ _ ea) (set_all h.hu) (as_sub h3)) sws_sub ss_sub ?_) fun D σ H z => tEvS_store z
      rw [assignEach_of rfl]
      rfl
  · cases q
theorem asgG_ok (h : XOk c g fns X) (tk : L2N.Takes X W) {ts : List Expr} {k : Nat} {p pos : Pos} {e : Expr} {i : IS} (hs : swappedStores [.Tuple ts k p] e X.env = pure none) (q : cAsgG n c (.Tuple ts k p) e = some i) : PS X (.Assign [.Tuple ts k p] e pos) (tEvS g W fns fuel i.den) := by
  unfold cAsgG at q
  simp only [Option.bind_eq_bind, Option.bind_eq_some_iff] at q
  obtain ⟨t, et, y, ey, q⟩ := q
  cases q
  refine PS.imp (ps_asg ((snd_all n).e h tk _ _ ey) ((tgt_sound h n).1 _ _ et) sws_tup hs ?_) fun D σ H z => tEvS_asgG z
  rw [assignEach_of rfl]
  rfl
theorem parOk_true {env : Env} {ts vs : List Expr} {k p k2 p2} (hb : env.blockKind = .function) (h : parOk env.scope ts vs = some true) : swappedStores [.Tuple ts k p] (.Tuple vs k2 p2) env = pure (some (parNames env.scope ts)) ∧ (parNames env.scope ts).length = ts.length := by
  rw [sw_eq hb]
  unfold parOk at h
  split at h
  · cases h
  · rename_i n1
    split at h
    · cases h
    · rename_i n2
      split at h
      · cases h
      · rename_i n3
        split at h
        · cases h
        · rename_i n4
          split at h
          · cases h
          · rename_i n5
            rw [if_neg n1, if_neg n2, if_neg n3, if_neg n4, if_neg n5]
            refine ⟨rfl, ?_⟩
            simp only [Bool.or_eq_true, not_or, bne_iff_ne, ne_eq, Decidable.not_not] at n3
            exact n3.1
theorem parOk_false {env : Env} {ts vs : List Expr} {k p k2 p2} (hb : env.blockKind = .function) (h : parOk env.scope ts vs = some false) : swappedStores [.Tuple ts k p] (.Tuple vs k2 p2) env = pure none := by
  rw [sw_eq hb]
  unfold parOk at h
  split at h
  · rename_i n1; rw [if_pos n1]
  · rename_i n1
    rw [if_neg n1]
    split at h
    · rename_i n2; rw [if_pos n2]
    · rename_i n2
      rw [if_neg n2]
      split at h
      · rename_i n3; rw [if_pos n3]
      · rename_i n3
        rw [if_neg n3]
        split at h
        · rename_i n4; rw [if_pos n4]
        · split at h <;> cases h
/-- names beside values -/
theorem parNames2 {sc : Scope} {x y : Str} {px py : Pos} (h : (parNames sc [.Name x px, .Name y py]).length = 2) : parNames sc [.Name x px, .Name y py] = [x, y] := by
  unfold parNames at h ⊢
  simp only [List.filterMap_cons, List.filterMap_nil] at h ⊢
  split at h <;> rename_i e1 <;> split at h <;> rename_i e2 <;> first | (simp at h; done) | skip
  split at e1 <;> cases e1
  split at e2 <;> cases e2
  rfl
theorem parNames3 {sc : Scope} {x y z : Str} {px py pz : Pos} (h : (parNames sc [.Name x px, .Name y py, .Name z pz]).length = 3) : parNames sc [.Name x px, .Name y py, .Name z pz] = [x, y, z] := by
  unfold parNames at h ⊢
  simp only [List.filterMap_cons, List.filterMap_nil] at h ⊢
  split at h <;> rename_i e1 <;> split at h <;> rename_i e2 <;> split at h <;> rename_i e3 <;> first | (simp at h; done) | skip
  split at e1 <;> cases e1
  split at e2 <;> cases e2
  split at e3 <;> cases e3
  rfl
theorem par_ok (h : XOk c g fns X) (tk : L2N.Takes X W) {ts vs : List Expr} {k k2 : Nat} {p p2 pos : Pos} {i : IS} (hp : parOk c.sc ts vs = some true) (q : cPar n c ts vs = some i) : PS X (.Assign [.Tuple ts k p] (.Tuple vs k2 p2) pos) (tEvS g W fns fuel i.den) := by
  rw [← h.hs] at hp
  obtain ⟨sw, hl⟩ := parOk_true (k := k) (p := p) (k2 := k2) (p2 := p2) (bk_X h) hp
  have hlen : vs.length = ts.length := by
    unfold parOk at hp
    split at hp
    · cases hp
    · rename_i n1
      simp only [Bool.or_eq_true, not_or, bne_iff_ne, ne_eq, Decidable.not_not] at n1
      exact n1.2
  unfold cPar at q
  split at q
  · simp only [Option.bind_eq_bind, Option.bind_eq_some_iff] at q
    obtain ⟨a, ea, b, eb, as, eas, q⟩ := q
    split at q
    · rename_i hc
      cases q
      simp only [Bool.and_eq_true, bne_iff_ne, ne_eq, Bool.not_eq_true'] at hc
      obtain ⟨hc, hot⟩ := hc
      match vs, hlen, eas with
      | [v1, v2], _, eas =>
        rw [parNames2 (by simpa using hl)] at sw
        split at eas
        · unfold cParO at eas
          simp only [Option.bind_eq_bind, Option.bind_eq_some_iff] at eas
          obtain ⟨x, ex, y, ey, eas⟩ := eas
          split at eas
          · cases eas
          · rename_i hm
            cases eas
            simp only [Bool.or_eq_true, not_or, Bool.not_eq_true] at hm
            have pa := pa_cons ((snd_all n).e h tk _ _ ex) (pa_cons ((snd_all n).e h tk _ _ ey) pa_nil (star_of hm.2)) (star_of hm.1)
            exact PS.imp (ps_par (h.calm hot) h.nd (by rw [h.hN]; exact idx?_ok ea) (by rw [h.hN]; exact idx?_ok eb) hc.2 (by rw [h.hs]; exact lclB_ok hc.1.1) (by rw [h.hs]; exact lclB_ok hc.1.2) pa sw sws_tup) fun D σ H z => tEvS_parO z
        · rw [Option.map_eq_some_iff] at eas
          obtain ⟨aa, eaa, rfl⟩ := eas
          exact PS.imp (ps_par (h.calm hot) h.nd (by rw [h.hN]; exact idx?_ok ea) (by rw [h.hN]; exact idx?_ok eb) hc.2 (by rw [h.hs]; exact lclB_ok hc.1.1) (by rw [h.hs]; exact lclB_ok hc.1.2) ((snd_all n).a h tk _ _ eaa).1 sw sws_tup) fun D σ H z => tEvS_par z
    · cases q
  · simp only [Option.bind_eq_bind, Option.bind_eq_some_iff] at q
    obtain ⟨a, ea, b, eb, d, ed, as, eas, q⟩ := q
    split at q
    · rename_i hc
      cases q
      simp only [Bool.and_eq_true, bne_iff_ne, ne_eq, Bool.not_eq_true'] at hc
      obtain ⟨hc, hot⟩ := hc
      match vs, hlen, eas with
      | [v1, v2, v3], _, eas =>
        rw [parNames3 (by simpa using hl)] at sw
        exact PS.imp (ps_par3 (h.calm hot) h.nd (by rw [h.hN]; exact idx?_ok ea) (by rw [h.hN]; exact idx?_ok eb) (by rw [h.hN]; exact idx?_ok ed) hc.1.1.2 hc.1.2 hc.2 (by rw [h.hs]; exact lclB_ok hc.1.1.1.1.1) (by rw [h.hs]; exact lclB_ok hc.1.1.1.1.2) (by rw [h.hs]; exact lclB_ok hc.1.1.1.2) ((snd_all n).a h tk _ _ eas).1 sw sws_tup) fun D σ H z => tEvS_par3 z
    · cases q
  · cases q
theorem asgT_ok (h : XOk c g fns X) (tk : L2N.Takes X W) {ts : List Expr} {k : Nat} {p pos : Pos} {e : Expr} {i : IS} (q : cAsgT n c (.Tuple ts k p) ts e = some i) : PS X (.Assign [.Tuple ts k p] e pos) (tEvS g W fns fuel i.den) := by
  unfold cAsgT at q
  split at q
  · split at q
    · rename_i hp
      exact par_ok h tk hp q
    · rename_i hp
      exact asgG_ok h tk (parOk_false (bk_X h) (by rw [h.hs]; exact hp)) q
    · cases q
  · rename_i hn
    refine asgG_ok h tk (ss_tup ?_) q
    cases e <;> first | rfl | exact absurd rfl (hn _ _ _)
structure SndS (n : Nat) : Prop where
  s : ∀ {c : CC} {g : Gx} {W : WX} {fns : Fns} {fuel : Nat} {X : Cx}, XOkS c g fns X → L2N.Takes X W → ∀ x i, cS n c x = some i → PS X x (tEvS g W fns fuel i.den)
  ss : ∀ {c : CC} {g : Gx} {W : WX} {fns : Fns} {fuel : Nat} {X : Cx}, XOkS c g fns X → L2N.Takes X W → ∀ x i, cSs n c x = some i → PSs X x (tEvS g W fns fuel i.den)
theorem s_step (S : SndS n) (h : XOkS c g fns X) (tk : L2N.Takes X W) (x : Stmt) (i : IS) (q : cS (n + 1) c x = some i) : PS X x (tEvS g W fns fuel i.den) := by
  have E := snd_all n
  unfold cS at q
  split at q
  · cases q; exact PS.imp ps_pass fun D σ H z => tEvS_skip z
  · cases q; exact PS.imp ps_break fun D σ H z => tEvS_brk z
  · cases q; exact PS.imp ps_continue fun D σ H z => tEvS_cnt z
  · cases q; exact PS.imp ps_doc fun D σ H z => tEvS_skip z
  · rw [Option.map_eq_some_iff] at q
    obtain ⟨y, ey, rfl⟩ := q
    exact PS.imp (ps_expr (E.e h.toXOk tk _ _ ey) (sw_none rfl)) fun D σ H z => tEvS_expr z
  · exact append_ok h.toXOk tk q
  · cases q; exact PS.imp ps_retN fun D σ H z => tEvS_retN z
  · rw [Option.map_eq_some_iff] at q
    obtain ⟨y, ey, rfl⟩ := q
    exact PS.imp (ps_ret (E.e h.toXOk tk _ _ ey)) fun D σ H z => tEvS_ret z
  · simp only [Option.bind_eq_bind, Option.bind_eq_some_iff] at q
    obtain ⟨u, eu, a, ea, b, eb, q⟩ := q
    cases q
    exact PS.imp (ps_if (E.t h.toXOk tk _ _ eu) (S.ss h tk _ _ ea) (S.ss h tk _ _ eb)) fun D σ H z => tEvS_if z
  · simp only [Option.bind_eq_bind, Option.bind_eq_some_iff] at q
    obtain ⟨src, es, t, et, b, eb, q⟩ := q
    split at q
    · cases q
    · rename_i hm
      cases q
      simp only [Bool.or_eq_true, not_or, Bool.not_eq_true] at hm
      exact PS.imp (ps_for (h.own hm.2) (h.calm hm.2) (E.i h.toXOk tk _ _ _ es) ((tgt_sound h.toXOk n).1 _ _ et) (S.ss h tk _ _ eb) (set_of hm.1 _)) fun D σ H z => tEvS_for z
  · simp only [Option.bind_eq_bind, Option.bind_eq_some_iff] at q
    obtain ⟨u, eu, b, eb, q⟩ := q
    split at q
    · cases q
    rename_i hot
    cases q
    exact PS.imp (ps_while (h.own (by simpa using hot)) (E.t h.toXOk tk _ _ eu) (S.ss h tk _ _ eb)) fun D σ H z => tEvS_while z
  · split at q
    · rename_i hc
      simp only [Bool.and_eq_true, Bool.not_eq_true'] at hc
      rw [Option.map_eq_some_iff] at q
      obtain ⟨k, ek, rfl⟩ := q
      exact PS.imp (L2N.ps_raise (h.calm hc.2) tk (h.cls hc.2 k _ (idx?_ok ek) (okName_ok hc.1.1).1 (gl_of h.toXOk hc.1.2) _ _ _ _ _)) fun D σ H z => tEvS_raise z
    · cases q
  · unfold cAsgN at q
    simp only [Option.bind_eq_bind, Option.bind_eq_some_iff] at q
    obtain ⟨j, ej, y, ey, q⟩ := q
    split at q
    · cases q
    rename_i nh
    have nh := by simpa using nh
    split at q <;> cases q
    · exact PS.imp (asgN_any h.toXOk tk (by simpa using nh) ej ey) fun D σ H z => tEvS_boxAsg z
    · exact PS.imp (asgN_any h.toXOk tk (by simpa using nh) ej ey) fun D σ H z => tEvS_asg z
  · exact store_ok h.toXOk tk q
  · exact asgT_ok h.toXOk tk q
  · cases q
theorem ss_step (S : SndS n) (h : XOkS c g fns X) (tk : L2N.Takes X W) (x : List Stmt) (i : IS) (q : cSs (n + 1) c x = some i) : PSs X x (tEvS g W fns fuel i.den) := by
  unfold cSs at q
  split at q
  · cases q; exact PSs.imp pss_nil fun D σ H z => tEvS_skip z
  · exact pss_one (S.s h tk _ _ q)
  · simp only [Option.bind_eq_bind, Option.bind_eq_some_iff] at q
    obtain ⟨a, ea, b, eb, q⟩ := q
    cases q
    exact PSs.imp (pss_cons (S.s h tk _ _ ea) (S.ss h tk _ _ eb)) fun D σ H z => tEvS_seq z
theorem sndS : ∀ n, SndS n
  | 0 => ⟨fun _ _ _ _ q => by simp [cS] at q, fun _ _ _ _ q => by simp [cSs] at q⟩
  | n + 1 => ⟨fun h tk x i q => s_step (sndS n) h tk x i q, fun h tk x i q => ss_step (sndS n) h tk x i q⟩
end
end Pv

/-! Pv.Hd: the def that calls what it got and tells what came of it. -/
namespace Pv
open L2 PySem PyProof.Rows PySem.Spec L2H

structure DefI where
  nm : Str
  ps : List Str
  N : List Str
  body : IS
def Out.res : Out → Res FR
  | .next _ bx => .ok ⟨.non, false, bx⟩
  | .ret d fr bx => .ok ⟨d, fr, bx⟩
  | .exc x _ bx => .exc x bx
  | _ => .stuck
def startV (n : Nat) (vs : List D) : Vs := vs.map .val ++ List.replicate (n - vs.length) .none
def runDef (fu : Nat) (c : Fns) (d : DefI) (vs : List D) (bx : Bx) : Res FR := if vs.length = d.ps.length then (d.body.den c fu (startV d.N.length vs) bx).res else .stuck
def fnsAt (ds : List DefI) (fu : Nat) : Nat → Fns
  | 0 => fun _ _ _ => .stuck
  | n + 1 => fun i vs bx => match ds[i]? with
    | some d => runDef fu (fnsAt ds fu n) d vs bx
    | none => .stuck

/-- the words for an except suite, for what stands behind it -/
def sPI (P : PIn) : PIn := { P with defs := [], als := [], vc := false, hands := [], hot := true, exq := true }
def rPI (P : PIn) : PIn := { P with defs := [], als := [], cls := [], vc := false, hands := [], hot := false, exq := false }
def cHand (P : PIn) (N : List Str) (sc : Scope) (a : Str) (body : List Stmt) : Option IS := match body with
  | .Try [.Expr (.Call (.Name y _) [] [] _) _] [.ExceptHandler (some (.Name C _)) (some e) (b0 :: suite) _] [] [] _ :: rest => do
    let tbl ← P.subs.lookup C
    let j ← idx? N e
    let s ← cSs 400 ⟨N, sc, fun _ => true, sPI P⟩ (b0 :: suite)
    let r ← cSs 400 ⟨N, sc, fun _ => true, rPI P⟩ rest
    if y == a && okName C && globB sc C && lclB sc e && tbl.all (fun k => decide (k < P.cls.length)) then some (.tryAs j tbl s r) else none
  | _ => none

theorem strO_ok {o : Out} {z : Str} {fr : Bool} {bx : Bx} (h : (strO o).res = .ok ⟨.str z, fr, bx⟩) : ∃ fr', o = .ret (.str z) fr' bx := by
  unfold strO at h
  split at h
  · rename_i z' fr' bx'
    simp only [Out.res, Res.ok.injEq, FR.mk.injEq, D.str.injEq] at h
    obtain ⟨e1, e2, e3⟩ := h
    subst e1 e3
    exact ⟨fr', rfl⟩
  · cases h
/-- what a def of the text that tells of exceptions is known to be -/
structure ClsF (P : PIn) (K : PySem.W.Frag) (mg : Str → Option Value) (g : Gx) : Prop where
  subs : ∀ C tbl, P.subs.lookup C = some tbl → ∃ Ca, mg C = some (.ref Ca) ∧ ∀ k, k < P.cls.length → PySem.W.kitOne K (.ref (g.ca k)) (.ref Ca) = some (tbl.contains k) ∧ PySem.W.exmOne K (.ref (g.ca k)) (.ref Ca) = some (tbl.contains k)
  exc : ∀ k, k < P.cls.length → P.subs ≠ [] → ExcC K (g.ca k)
theorem val_of_str {g : Gx} {b : Bse} {F' : Addr → Prop} {β' : List Addr} {H' : Hp} {v : V} {z : Str} {fr : Bool} {bx : Bx} (r : RetR g.toGh b F' β' H' v (.str z) fr bx) : v = .str z := by
  have q := r.val
  cases fr with
  | true =>
    rw [if_pos rfl] at q
    obtain ⟨p, _, _, _, _, o⟩ := q
    exact o.elim
  | false =>
    have q : Rep g.toGh F' β' H' v (.str z) := q
    cases q
    rfl
theorem BoxR.cg {g g' : Gh} (e : g.T = g'.T) {F : Addr → Prop} {β : List Addr} {H : Hp} {bx : Bx} (b : BoxR g F β H bx) : BoxR g' F β H bx := ⟨b.len, b.nd, b.at_, b.th, e ▸ b.tab⟩
/-- all slots empty but, it may be, one -/
theorem empty_rel {g : Gx} {F : Addr → Prop} {β : List Addr} {H : Hp} {bx : Bx} (b : BoxR g.toGh F β H bx) {σ : L2.St} {vs : Vs} (hl : vs.length = σ.length) (h : ∀ (i : Nat) s, vs[i]? = some s → s = .none ∨ ∃ d v, s = .val d ∧ σ[i]? = some (some v) ∧ Rep g.toGh F β H v d) :
    RelS g.toGh ⟨F, (· ∈ β), β, H⟩ F β H σ vs bx := by
  refine ⟨b.good, Ext.refl, fun _ _ e => e, fun p h => .inl h, b, hl, fun i s e => ?_, fun i j di dj p e1 e2 _ _ => ?_⟩
  · rcases h i s e with rfl | ⟨d, v, rfl, e1, q⟩
    · trivial
    · exact ⟨v, e1, q⟩
  · rcases h i _ e1 with h | ⟨d, v, h, _⟩ <;> cases h
theorem startV_get {n : Nat} {d : D} (i : Nat) (s : Slot) (h : ((startV n [d]).set 0 .none)[i]? = some s) : s = .none := by
  unfold startV at h
  cases i with
  | zero => simp at h; exact h.symm
  | succ i =>
    simp only [List.map_cons, List.map_nil, List.cons_append, List.nil_append, List.set_cons_zero, List.getElem?_cons_succ] at h
    exact List.eq_of_mem_replicate (List.mem_of_getElem? h)
theorem startV_len {n : Nat} {d : D} (h : 0 < n) : (startV n [d]).length = n := by
  unfold startV
  simp
  omega
section
variable {g : Gx} {X : Cx} {Ng : List Str} {x a q : Str} {sg : Scope} {g0 : Addr} {cdv : Value}
theorem hand_gives {P : PIn} {body : List Stmt} {bi : IS} {fns fns0 : Fns} {fu i : Nat} (C : ClsF P X.K X.mg g) (hc : cHand P Ng sg a body = some bi) (hK : X.K = g.K) (S : FnScope Ng [a] sg) (hr : Room 1 X.A)
    (consts : ∀ x d, P.consts.lookup x = some d → ∃ u v, X.mg x = some u ∧ RelV v u ∧ ∀ (g' : Gx), g'.K = g.K → g'.fa = g.fa → ∀ F β H, Rep g'.toGh F β H v d) (free : ∀ x, P.free.contains x = true → X.mg x = none) (bfs : ∀ x id, P.bfs.lookup x = some id → X.mg x = some (.builtin id))
    (hf : ∀ args bx, args.length = 1 → fns i args bx = .stuck ∨ fns i args bx = (bi.den fns0 fu (startV Ng.length args) bx).res) : GivesN X Ng x sg g0 cdv body a q (TTh g fns i) := by
  unfold cHand at hc
  split at hc
  · rename_i y p1 p2 p3 Cn np e b0 suite pos' pos rest
    simp only [Option.bind_eq_bind, Option.bind_eq_some_iff] at hc
    obtain ⟨tbl, et, j, ej, s, es, r, er, hc⟩ := hc
    split at hc
    · rename_i hcc
      cases hc
      simp only [Bool.and_eq_true, List.all_eq_true, decide_eq_true_eq] at hcc
      obtain ⟨⟨⟨⟨e1, okC⟩, glC⟩, lcE⟩, tb⟩ := hcc
      cases eq_of_beq e1
      obtain ⟨Ca, mC, sb⟩ := C.subs _ _ et
      have sne : P.subs ≠ [] := fun z => by rw [z] at et; simp at et
      intro fn nc s0 H Q tl act hnc h
      have npos : 0 < Ng.length := by
        have := congrArg List.length S.pre
        simp at this
        omega
      have hjN := idx?_ok ej
      have hj : j < Ng.length := (List.getElem?_eq_some_iff.mp hjN).1
      have room := hr.deeper (envOfC x sg s0.heap.objs.size g0 cdv)
      have un : (X.A.deeper (envOfC x sg s0.heap.objs.size g0 cdv)).units + 65 < cLine := by
        have := room.un
        omega
      have lv0 : ∀ (PI : PIn) (g' : Gx), PI.defs = [] → PI.als = [] → PI.vc = false → LvOk PI g' fns0 X.prog X.w X.K X.mg X.base 0 := fun PI g' d1 d2 d3 =>
        ⟨fun i x n e => by rw [d1] at e; simp at e, fun x k e => by rw [d2] at e; simp at e, fun e => by rw [d3] at e; cases e⟩
      -- behind the try
      have XR0 : XOkS ⟨Ng, sg, fun _ => true, rPI P⟩ g fns0 (getC X Ng x sg g0 cdv s0 H).nox := {
        hN := rfl, nd := S.nd, hs := rfl, kd := S.kind, fnv := fun _ e => e, calm := fun _ => rfl, hotC := fun e => (by cases e), K := hK, hu := un,
        consts := fun x d e => let ⟨u, v, h1, h2, h3⟩ := consts x d e; ⟨u, v, h1, h2, h3 g rfl rfl⟩, free := free, bfs := bfs, lv := ⟨0, lv0 (rPI P) g rfl rfl rfl, fun _ => room, .inl rfl⟩,
        lam := fun x i e => (by cases e), exn := fun e => (by cases e), own := fun _ => PassesOwn.never, cls := fun _ i x e => by simp [rPI] at e }
      -- the suite
      have XS0 : ∀ (a' : Addr) (oe : Obj) (x0 : Xc) (pn : List (Addr × Obj)), L2N.Zn (.ref (g.ca x0.c)) none oe → (∃ vs, oe.data = .fields vs) → x0.c < P.cls.length →
          XOkS ⟨Ng, sg, fun _ => true, sPI P⟩ { g with ex := some (a', x0) } fns0 ((getC X Ng x sg g0 cdv s0 H).nox.suite a' ((a', oe) :: pn)) := fun a' oe x0 pn hz ⟨vs, hd⟩ lt => {
        hN := rfl, nd := S.nd, hs := rfl, kd := S.kind, fnv := fun _ e => e, calm := fun e => (by cases e), hotC := fun _ => ⟨(a', oe), ⟨rfl, vs, hd, hz.2.2 vs hd⟩, List.mem_cons_self⟩, K := hK, hu := un,
        consts := fun x d e => let ⟨u, v, h1, h2, h3⟩ := consts x d e; ⟨u, v, h1, h2, h3 _ rfl rfl⟩, free := free, bfs := bfs, lv := ⟨0, lv0 (sPI P) _ rfl rfl rfl, fun e => (by cases e), .inl rfl⟩,
        lam := fun x i e => (by cases e), exn := fun _ => ⟨a', x0, rfl, call_isE (C.exc _ lt sne) hz.zc ⟨vs, hd⟩, fun C' tbl' e' => by
          obtain ⟨Ca', m', sb'⟩ := C.subs _ _ e'
          exact ⟨Ca', m', (sb' _ lt).1⟩⟩, own := fun e => (by cases e), cls := fun e => (by cases e) }
      have ptry := L2N.ps_try_as (X := (getC X Ng x sg g0 cdv s0 H).nox) (x := Cn) (n := e) (np := np) (c := .ref Ca) (i := j) (b₀ := b0) (suite := suite) (pos := pos) (pos' := pos') (Wout := W0)
        (tb := fun W D σ H1 => ∃ E, (∀ cls d (σ1 : L2.St) H2, σ1.length = Ng.length → E cls d H2 → W cls d σ1 H2) ∧ σ[0]? = some (some (.ref fn)) ∧ H1 nc = some (LamX.CodeO nc q) ∧ tl E H1 (fun _ H2 => D.nx σ H2))
        (ts := fun a' cls d D σ H1 => ∃ x0 : Xc, cls = .ref (g.ca x0.c) ∧ d = none ∧ x0.c < P.cls.length ∧ tEvS { g with ex := some (a', x0) } W0 fns0 fu s.den D σ H1)
        rfl rfl S.nd hjN (lclB_ok lcE) ⟨globB_ok glC, (okName_ok okC).1, .inl mC⟩ takes0 (fun W pn xe tk _ => ⟨fun pins s' σ H' D I ⟨E, hW, h1, h2, h3⟩ =>
          (pss_one (ps_expr (pos := p3) (act W pn xe E p1 p2 tk hW))).run pins s' σ H' D I ⟨h1, h2, h3⟩⟩)
        (fun a' oe cls d pn hz hd => ⟨fun pins s' σ H' D I ⟨x0, c1, c2, lt, h'⟩ => ((sndS 400).ss (XS0 a' oe x0 pn (by rw [← c1, ← c2]; exact hz) hd lt) takes0 _ _ es).run pins s' σ H' D I h'⟩)
      have prest : PSs (getC X Ng x sg g0 cdv s0 H).nox rest (fun D σ H2 => ∃ F β bx, BoxR g.toGh F β H2 bx ∧ AskH g D.rt F β H2 (fns i [.non] bx)) := ⟨fun pins s' σ H' D I ⟨F, β, bx, bo, ah⟩ => by
        refine ((sndS 400).ss (W := W0) (fuel := fu) XR0 takes0 _ _ er).run pins s' σ H' D I ⟨⟨F, (· ∈ β), β, H'⟩, F, β, (startV Ng.length [.non]).set 0 .none, bx, empty_rel bo ?_ (fun i sl e => .inl (startV_get i sl e)), ?_⟩
        · rw [List.length_set, startV_len npos]
          exact I.len.symm
        · rcases hf [.non] bx rfl with z | z
          · rw [z] at ah; exact ah.elim
          · unfold AskH at ah
            split at ah
            · rename_i zz fr bx1 e2
              rw [z] at e2
              obtain ⟨fr', e3⟩ := strO_ok (o := (r.den fns0 fu ((startV Ng.length [.non]).set 0 .none) bx)) (by rw [← e2]; rfl)
              rw [e3]
              intro v F2 β2 H2 rt
              rw [val_of_str rt]
              exact ah F2 β2 H2 ⟨rt.ext, rt.pre, rt.nw, rt.box⟩
            · exact ah.elim⟩
      refine ⟨_, pss_cons ptry prest, ⟨fun cls d H1 => ∃ x F β bx, XR g x cls d H1 ∧ BoxR g.toGh F β H1 bx ∧ AskH g Q F β H1 (fns i [.exn x] bx), fun cls d σ1 H2 hl ⟨x0, F, β, bx, xr, bo, ah⟩ => ?_, ?_, hnc, h⟩⟩
      · rcases hf [.exn x0] bx rfl with z | z
        · rw [z] at ah; exact ah.elim
        · unfold AskH at ah
          split at ah
          · rename_i zz fr bx1 e2
            rw [z] at e2
            have e4 : (IS.tryAs j tbl s r).den fns0 fu (startV Ng.length [.exn x0]) bx = if tbl.contains x0.c && x0.pl.isNone then strO (s.den fns0 fu (((startV Ng.length [.exn x0]).set 0 .none).set j (.val (.exn x0))) bx) else .stuck := rfl
            rw [e4] at e2
            split at e2
            · rename_i hc2
              simp only [Bool.and_eq_true] at hc2
              obtain ⟨fr', e3⟩ := strO_ok e2
              have lt := tb x0.c (by simpa using hc2.1)
              obtain ⟨xr1, xr2⟩ := xr
              have dn : d = none := by
                cases ep : x0.pl with
                | none => rw [ep] at xr2; exact xr2
                | some y => rw [ep] at hc2; simp at hc2
              refine ⟨true, by rw [xr1]; exact (sb _ lt).2.trans (by rw [hc2.1]), fun _ a' na => ⟨x0, xr1, dn, lt, ⟨F, (· ∈ β), β, H2⟩, F, β, ((startV Ng.length [.exn x0]).set 0 .none).set j (.val (.exn x0)), bx, empty_rel (g := { g with ex := some (a', x0) }) (BoxR.cg (g := g.toGh) (g' := Gx.toGh { g with ex := some (a', x0) }) rfl bo) ?_ (fun k sl e => ?_), ?_⟩, fun e => by cases e⟩
              · rw [List.length_set, List.length_set, startV_len npos, List.length_set]
                exact hl.symm
              · by_cases hk : j = k
                · subst hk
                  rw [List.getElem?_set_self (by rw [List.length_set, startV_len npos]; exact hj)] at e
                  cases e
                  exact .inr ⟨_, .ref a', rfl, by rw [List.getElem?_set_self (by rw [hl]; exact hj)], .exn rfl⟩
                · rw [List.getElem?_set_ne hk] at e
                  exact .inl (startV_get k sl e)
              · rw [e3]
                intro v F2 β2 H3 rt
                rw [val_of_str rt]
                exact ah F2 β2 H3 ⟨rt.ext, rt.pre, rt.nw, BoxR.cg (g := Gx.toGh { g with ex := some (a', x0) }) (g' := g.toGh) rfl rt.box⟩
            · cases e2
          · exact ah.elim
      · have e0 : Ng[0]? = some a := by
          have := S.pre
          cases Ng with
          | nil => simp at npos
          | cons b l => simp at this; simp [this]
        unfold L2.start
        rw [List.getElem?_append_left (by simp)]
        rfl
    · cases hc
  · cases hc
end
end Pv

/-! Pv.Q: defs. -/
namespace Pv
open L2 PySem PyProof.Rows PySem.Spec

theorem start_get {F : Addr → Prop} {g : Gh} {β : List Addr} {H : Hp} {vs : List V} {ds : List D} (r : RepAll g F β H vs ds) {N : List Str} : ∀ (i : Nat) (s : Slot), (startV N.length ds)[i]? = some s → (s = .none ∨ ∃ d v, s = .val d ∧ (L2.start N vs)[i]? = some (some v) ∧ Rep g F β H v d) := by
  intro i s e
  unfold startV at e
  by_cases hl : i < ds.length
  · rw [List.getElem?_append_left (by simpa using hl), List.getElem?_map] at e
    rw [Option.map_eq_some_iff] at e
    obtain ⟨d, e1, rfl⟩ := e
    obtain ⟨v, e2, q⟩ := r.get e1
    refine .inr ⟨d, v, rfl, ?_, q⟩
    unfold L2.start
    rw [List.getElem?_append_left (by rw [List.length_map, r.length]; exact hl), List.getElem?_map, e2]
    rfl
  · rw [List.getElem?_append_right (by simpa using hl)] at e
    have := List.mem_of_getElem? e
    exact .inl (List.eq_of_mem_replicate this)
theorem start_rel {F : Addr → Prop} {g : Gh} {β : List Addr} {H : Hp} {bx : Bx} {vs : List V} {ds : List D} (b : BoxR g F β H bx) (r : RepAll g F β H vs ds) {N : List Str} : RelS g ⟨F, (· ∈ β), β, H⟩ F β H (L2.start N vs) (startV N.length ds) bx := by
  refine ⟨b.good, Ext.refl, fun _ _ e => e, fun p h => .inl h, b, ?_, fun i s e => ?_, fun i j di dj p e1 e2 _ _ => ?_⟩
  · unfold startV L2.start
    simp [r.length]
  · rcases start_get r i s e with rfl | ⟨d, v, rfl, e1, q⟩
    · trivial
    · exact ⟨v, e1, q⟩
  · rcases start_get r i _ e1 with h | ⟨d, v, h, _⟩ <;> cases h
/-- what a run of a body says of the def -/
theorem run_body {g : Gx} {fns : Fns} {fu : Nat} {d : IS} {F : Addr → Prop} {β : List Addr} {H : Hp} {bx : Bx} {vs : List V} {ds : List D} {N : List Str} {Q : VK} {E : XK} (b : BoxR g.toGh F β H bx) (r : RepAll g.toGh F β H vs ds)
    (h : match (d.den fns fu (startV N.length ds) bx).res with
      | .ok q => ∀ v F' β' H', Stp g.toGh F β H F' β' H' q.bx → FrR g.toGh H F' β' H' v q → Q v H'
      | .exc x bx' => ∀ cls d F' β' H', Stp g.toGh F β H F' β' H' bx' → XR g x cls d H' → E cls d H'
      | .stuck => False) : tEvS g (fun cls d _ H => E cls d H) fns fu d.den { nx := fun _ H' => Q .non H', rt := Q } (L2.start N vs) H := by
  refine ⟨⟨F, (· ∈ β), β, H⟩, F, β, startV N.length ds, bx, start_rel b r, ?_⟩
  have st : ∀ {F' : Addr → Prop} {β' : List Addr} {H' : Hp} {σ' : L2.St} {vs' : Vs} {bx' : Bx}, RelS g.toGh ⟨F, (· ∈ β), β, H⟩ F' β' H' σ' vs' bx' → Stp g.toGh F β H F' β' H' bx' := fun R => ⟨R.ext, R.pre, R.nw, R.box⟩
  cases e : d.den fns fu (startV N.length ds) bx with
  | next vs' bx' =>
    rw [e] at h
    intro σ' F' β' H' R
    exact h .non F' β' H' (st R) (by unfold FrR; rw [if_neg Bool.false_ne_true]; exact .non)
  | ret d fr bx' =>
    rw [e] at h
    intro v F' β' H' R
    refine h v F' β' H' ⟨R.ext, R.pre, R.nw, R.box⟩ ?_
    have q := R.val
    unfold FrR
    cases fr with
    | false => exact q
    | true =>
      rw [if_pos rfl] at q ⊢
      obtain ⟨p, ev, nf, nb, m, o⟩ := q
      refine ⟨p, ev, nf, ?_, nb, o⟩
      rcases m with m | m
      · obtain ⟨k, hk⟩ := List.mem_iff_getElem?.mp m
        exact absurd (List.mem_of_getElem? (R.pre k p hk)) nb
      · exact m
  | brk vs' bx' => rw [e] at h; exact h.elim
  | cnt vs' bx' => rw [e] at h; exact h.elim
  | exc x vs' bx' =>
    rw [e] at h
    intro cls d σ' F' β' H' R xr
    exact h cls d F' β' H' (st R) xr
  | stuck => rw [e] at h; exact h.elim

/-- where a def's function lies -/
structure FnAt where
  st : Stmt
  f : Addr
  fd : FuncData
/-- facts of an exception class of the text -/
structure ClsOk (K : PySem.W.Frag) (mg : Str → Option Value) (C : Addr) (x : Str) : Prop where
  ex : ∃ bmB B newId initId, ExcBaseFacts B newId initId bmB ∧ PySem.W.excIn K C bmB newId = true
  m : mg x = some (.ref C)
  kp : PySem.W.keepIn K (.ref C) = true
  sub : PySem.W.subIn K (.ref C) (.type "BaseException") = some true
  ty : PySem.W.typeIn K (.ref C) = some (.type "type")
/-- only some defs hand lambdas on -/
def PIof (PI : PIn) (mk : List Nat) (i : Nat) : PIn := if mk.contains i then PI else { PI with hands := [] }
abbrev qOf (x : Str) : Str := lmN (x ++ (".<locals>." : Str))
structure PrgOk (P : Program) (w : World) (K : PySem.W.Frag) (mg : Str → Option Value) (base : Heap) (g : Gx) (PI : PIn) (mk : List Nat) (ds hs : List DefI) (at_ : Nat → FnAt) : Prop where
  hK : g.K = K
  hP : PI.defs = ds.map fun d => (d.nm, d.ps.length)
  hot : PI.hot = false
  exq : PI.exq = false
  fa : ∀ k f, g.fa k = some f ↔ ∃ d, ds[k]? = some d ∧ f = (at_ k).f
  consts : ∀ x d, PI.consts.lookup x = some d → ∃ u v, mg x = some u ∧ RelV v u ∧ ∀ g' : Gx, g'.K = g.K → g'.fa = g.fa → ∀ F β H, Rep g'.toGh F β H v d
  free : ∀ x, PI.free.contains x = true → mg x = none
  bfs : ∀ x id, PI.bfs.lookup x = some id → mg x = some (.builtin id)
  cls : ∀ i x, PI.cls[i]? = some x → ClsOk K mg (g.ca i) x
  als : ∀ x k, PI.als.lookup x = some k → ∃ d, ds[k]? = some d ∧ mg x = mg d.nm
  clsF : ClsF PI K mg g
  fn : ∀ i d, ds[i]? = some d → FunD K d.nm d.nm (defArgs (at_ i).st) (defBody (at_ i).st) (defScope (at_ i).st) [] [] (at_ i).f (at_ i).fd ∧ mg d.nm = some (.ref (at_ i).f) ∧ FnScope d.N d.ps (defScope (at_ i).st) ∧
    Binds K (at_ i).fd d.ps [] ∧ cSs 400 ⟨d.N, defScope (at_ i).st, fun _ => true, PIof PI mk i⟩ (defBody (at_ i).st) = some d.body
  hand : ∀ x i, PI.hands.lookup x = some i → ∃ d a, (ds ++ hs)[i]? = some d ∧ x = d.nm ∧ d.ps = [a] ∧ FunD K d.nm d.nm (defArgs (at_ i).st) (defBody (at_ i).st) (defScope (at_ i).st) [] [] (at_ i).f (at_ i).fd ∧ mg d.nm = some (.ref (at_ i).f) ∧
    FnScope d.N [a] (defScope (at_ i).st) ∧ Binds K (at_ i).fd [a] [] ∧ okName a = true ∧ cHand PI d.N (defScope (at_ i).st) a (defBody (at_ i).st) = some d.body
  tab : ∀ i d, ds[i]? = some d → mk.contains i = true → ∃ cc T, (at_ i).fd.code = .ref cc ∧ LamX.TabB base mg cc T ∧ (T, qOf d.nm) ∈ g.T ∧ ∀ p ∈ g.T, p.1 = T → p.2 = qOf d.nm
/-- the rule for a def, its code told -/
theorem funD_okC {P : Program} {w : World} {K : PySem.W.Frag} {mg : Str → Option Value} {base : Heap} {x qual : Str} {params : Arguments} {body : List Stmt} {scope : Scope} {dvs : List V} {kws : List (Str × V)} {f : Addr} {fd : FuncData} {CX : CXT} {N ps : List Str} {k : Nat} {sp : Sp}
    (F : FunD K x qual params body scope dvs kws f fd) (S : FnScope N ps scope) (len : ∀ vs H Q E, sp vs H Q E → vs.length = ps.length)
    (hb : ∀ (A : Around) (outer : List Env) (s : Shared) (H : Hp) (vs : List V) (Q : VK) (E : XK), Room k (A.deeper (envOfC qual scope s.heap.objs.size f fd.code)) → sp vs H Q E →
      ∃ t, PSs (cxOf CX P w K mg base N qual scope f fd.code A outer s H E) body t ∧ t { nx := fun _ H' => Q .non H', rt := Q } (L2.start N vs) H) : FnOk P w K mg base CX (k + 1) f fd ps sp := by
  obtain ⟨oc, od, dV, kV, doc, pm, an, cdv, ct, osl, e, lk, hcd, _, _⟩ := F.ex
  subst e
  exact fn_of lk hcd S len fun A outer s H vs Q E hr hsp => hb A outer s H vs Q E hr hsp
theorem mk_hands {PI : PIn} {mk : List Nat} {i : Nat} : (PIof PI mk i).hands = [] ∨ ((PIof PI mk i) = PI ∧ mk.contains i = true) := by
  unfold PIof
  by_cases h : mk.contains i = true
  · rw [if_pos h]; exact .inr ⟨rfl, h⟩
  · rw [if_neg h]; exact .inl rfl
theorem PIof_same {PI : PIn} {mk : List Nat} {i : Nat} : (PIof PI mk i).consts = PI.consts ∧ (PIof PI mk i).defs = PI.defs ∧ (PIof PI mk i).bfs = PI.bfs ∧ (PIof PI mk i).free = PI.free ∧ (PIof PI mk i).cls = PI.cls ∧ (PIof PI mk i).als = PI.als ∧ (PIof PI mk i).vc = PI.vc ∧ (PIof PI mk i).hot = PI.hot ∧ (PIof PI mk i).exq = PI.exq := by
  unfold PIof
  split <;> exact ⟨rfl, rfl, rfl, rfl, rfl, rfl, rfl, rfl, rfl⟩
section
variable {P : Program} {w : World} {K : PySem.W.Frag} {mg : Str → Option Value} {base : Heap} {g : Gx} {PI : PIn} {mk : List Nat} {ds hs : List DefI} {at_ : Nat → FnAt}
theorem fnsAt_get {l : List DefI} {fu n i : Nat} {d : DefI} (e : l[i]? = some d) (vs : List D) (bx : Bx) : fnsAt l fu (n + 1) i vs bx = runDef fu (fnsAt l fu n) d vs bx := by
  show (match l[i]? with | some d => runDef fu (fnsAt l fu n) d vs bx | none => Res.stuck) = _
  rw [e]
/-- a body's context -/
theorem body_ok (h : PrgOk P w K mg base g PI mk ds hs at_) {fu n : Nat} {CX0 : CXT} {d : DefI} {i : Nat} (ed : ds[i]? = some d) {A : Around} {outer : List Env} {s : Shared} {H : Hp} {E : XK}
    (hr : Room (3 * n + 3) (A.deeper (envOfC d.nm (defScope (at_ i).st) (s.heap.objs.size) (at_ i).f (at_ i).fd.code)))
    (ih : ∀ (j : Nat) dj, ds[j]? = some dj → FnOk P w K mg base (L2N.CX P w) (3 * n + 1) (at_ j).f (at_ j).fd dj.ps (spEv g (fnsAt (ds ++ hs) fu n) j dj.ps.length)) :
    XOkS ⟨d.N, defScope (at_ i).st, fun _ => true, PIof PI mk i⟩ g (fnsAt (ds ++ hs) fu n) (cxOf CX0 P w K mg base d.N d.nm (defScope (at_ i).st) (at_ i).f (at_ i).fd.code A outer s H E) := by
  obtain ⟨F, hm, S, hb, hc⟩ := h.fn i d ed
  obtain ⟨p1, p2, p3, p4, p5, p6, p7, p8, p9⟩ := PIof_same (PI := PI) (mk := mk) (i := i)
  have alen : ∀ k, k < ds.length → (ds ++ hs)[k]? = ds[k]? := fun k hk => List.getElem?_append_left hk
  refine {
    hN := rfl, nd := S.nd, hs := rfl, kd := S.kind, fnv := fun _ e => e, calm := fun _ => rfl, hotC := fun e => ?_, K := h.hK.symm, hu := ?_, consts := fun x d e => ?_, free := fun x e => h.free x (by rw [← p4]; exact e), bfs := fun x id e => h.bfs x id (by rw [← p3]; exact e), lv := ⟨3 * n + 1, ⟨fun j x m ej => ?_, fun x k e => ?_, fun _ k f e => ?_⟩, fun _ => hr.mono (by omega), .inr hr⟩,
    lam := fun x k e => ?_, exn := fun e => ?_, own := fun _ => ?_, cls := fun _ j x ej hx G m jj p p2 pos => ?_ }
  · rw [show (PIof PI mk i).hot = false from p8.trans h.hot] at e; cases e
  · have := hr.un
    show (A.deeper (envOfC d.nm (defScope (at_ i).st) (s.heap.objs.size) (at_ i).f (at_ i).fd.code)).units + 65 < cLine
    omega
  · obtain ⟨u, v, h1, h2, h3⟩ := h.consts x d (by rw [← p1]; exact e)
    exact ⟨u, v, h1, h2, h3 g rfl rfl⟩
  · rw [p2, h.hP, List.getElem?_map, Option.map_eq_some_iff] at ej
    obtain ⟨dj, ej, e2⟩ := ej
    cases e2
    obtain ⟨Fj, hmj, Sj, hbj, _⟩ := h.fn j dj ej
    exact ⟨_, _, _, ih j dj ej, hmj, (h.fa j _).mpr ⟨dj, ej, rfl⟩, Fj.kp, hbj⟩
  · obtain ⟨dj, ej, em⟩ := h.als x k (by rw [← p6]; exact e)
    exact ⟨dj.nm, dj.ps.length, by rw [p2, h.hP, List.getElem?_map, ej]; rfl, em⟩
  · obtain ⟨dj, ej, ef⟩ := (h.fa k f).mp e
    subst ef
    obtain ⟨Fj, hmj, Sj, hbj, _⟩ := h.fn k dj ej
    refine ⟨Fj.kp, fun m ⟨vs, bx, hl, ns⟩ => ?_⟩
    have em : m = dj.ps.length := by
      cases n with
      | zero => exact absurd rfl ns
      | succ n =>
        rw [fnsAt_get (d := dj) (by rw [alen k (List.getElem?_eq_some_iff.mp ej).1, ej])] at ns
        unfold runDef at ns
        by_cases hq : vs.length = dj.ps.length
        · rw [← hl, hq]
        · rw [if_neg hq] at ns; exact absurd rfl ns
    subst em
    exact ⟨_, _, ih k dj ej, hbj⟩
  · rcases mk_hands (PI := PI) (mk := mk) (i := i) with z | ⟨z, hmk⟩
    · rw [z] at e; cases e
    · rw [z] at e
      obtain ⟨dh, a, eh, ex, eps, Fh, hmh, Sh, hbh, oka, hch⟩ := h.hand x k e
      obtain ⟨cc, T, t1, t2, t3, t4⟩ := h.tab i d ed hmk
      obtain ⟨oc, od, dV, kV, doc, pm, an, cdv, ct, osl, efd, lk, hcd, _, _⟩ := Fh.ex
      obtain ⟨o1, o2, o3⟩ := okName_ok oka
      subst ex
      refine ⟨a, (at_ k).f, defScope (at_ k).st, defBody (at_ k).st, cdv, dh.N, cc, T, ⟨⟨_, _, _, _, _, _, _, _, _, _, by rw [← efd]; exact lk, by rw [← efd]; exact hbh⟩, hmh, Fh.kp, hcd, Sh, ?_, ?_, o1, o2, ?_⟩, t2, t1, t3, t4⟩
      · have q := Sh.pre
        cases eN : dh.N with
        | nil => rw [eN] at q; simp at q
        | cons b l => rw [eN] at q; simp at q; simp [q]
      · exact (Sh.par a (by simp)).imp id .inl
      · cases n with
        | zero => exact hand_gives (fns0 := fun _ _ _ => .stuck) (fu := fu) h.clsF hch h.hK.symm Sh (hr.mono (by omega)) h.consts h.free h.bfs fun args bx _ => .inl rfl
        | succ n =>
          refine hand_gives (fns0 := fnsAt (ds ++ hs) fu n) (fu := fu) h.clsF hch h.hK.symm Sh (hr.mono (by omega)) h.consts h.free h.bfs fun args bx hl => .inr ?_
          rw [fnsAt_get eh]
          unfold runDef
          rw [if_pos (by rw [eps]; exact hl)]
  · rw [show (PIof PI mk i).exq = false from p9.trans h.exq] at e; cases e
  · exact passes_of rfl
  · have c := h.cls j x (by rw [← p5]; exact ej)
    obtain ⟨bmB, B, newId, initId, e1, e2⟩ := c.ex
    exact L2N.pmk_own e1 e2 c.m c.kp (raises_own c.sub c.ty) G hx
theorem spEv_len {fns : Fns} {i n : Nat} {vs : List V} {H : Hp} {Q : VK} {E : XK} (h : spEv g fns i n vs H Q E) : vs.length = n := h.1
theorem fnsAt_at {fu n i : Nat} {d : DefI} (ed : ds[i]? = some d) (vs : List D) (bx : Bx) : fnsAt (ds ++ hs) fu (n + 1) i vs bx = runDef fu (fnsAt (ds ++ hs) fu n) d vs bx := by
  exact fnsAt_get (by rw [List.getElem?_append_left (List.getElem?_eq_some_iff.mp ed).1, ed]) vs bx
/-- all defs, at every depth -/
theorem fns_ok (h : PrgOk P w K mg base g PI mk ds hs at_) (fu : Nat) : ∀ (n i : Nat) (d : DefI), ds[i]? = some d → FnOk P w K mg base (L2N.CX P w) (3 * n + 1) (at_ i).f (at_ i).fd d.ps (spEv g (fnsAt (ds ++ hs) fu n) i d.ps.length)
  | 0, i, d, ed => by
    obtain ⟨F, hm, S, hb, hc⟩ := h.fn i d ed
    refine F.ok S (fun vs H Q E q => spEv_len q) fun cdv A outer s H vs Q E hr q => ?_
    obtain ⟨_, F, β, bx, ds', _, _, z⟩ := q
    exact z.elim
  | n + 1, i, d, ed => by
    obtain ⟨F, hm, S, hb, hc⟩ := h.fn i d ed
    refine funD_okC (k := 3 * n + 3) F S (fun vs H Q E q => spEv_len q) fun A outer s H vs Q E hr q => ?_
    have X := body_ok (CX0 := L2N.CX P w) (fu := fu) h ed (H := H) (E := E) (outer := outer) hr fun j dj ej => fns_ok h fu n j dj ej
    refine ⟨_, (sndS 400).ss (fuel := fu) X (L2N.takes_of rfl rfl rfl rfl) _ _ hc, ?_⟩
    obtain ⟨hl, F, β, bx, ds', r, b, z⟩ := q
    rw [fnsAt_at ed] at z
    unfold runDef at z
    rw [if_pos (by rw [← r.length]; exact hl)] at z
    exact run_body b r z
/-- the law's def: nothing may be raised -/
theorem law_ok (h : PrgOk P w K mg base g PI mk ds hs at_) (fu n i : Nat) (d : DefI) (ed : ds[i]? = some d) {sp : Sp} (len : ∀ vs H Q E, sp vs H Q E → vs.length = d.ps.length)
    (hq : ∀ vs H Q E, sp vs H Q E → ∃ F β bx ds' b bx', RepAll g.toGh F β H vs ds' ∧ BoxR g.toGh F β H bx ∧ fnsAt (ds ++ hs) fu (n + 1) i ds' bx = .ok ⟨.bl b, false, bx'⟩ ∧ ∀ H', Q (.bl b) H') :
    FnOk P w K mg base CX0 (3 * n + 4) (at_ i).f (at_ i).fd d.ps sp := by
  obtain ⟨F, hm, S, hb, hc⟩ := h.fn i d ed
  refine funD_okC (k := 3 * n + 3) F S len fun A outer s H vs Q E hr q => ?_
  have X := body_ok (CX0 := CX0) (fu := fu) h ed (H := H) (E := E) (outer := outer) hr fun j dj ej => fns_ok h fu n j dj ej
  refine ⟨_, (sndS 400).ss (W := W0) (fuel := fu) X takes0 _ _ hc, ?_⟩
  obtain ⟨F, β, bx, ds', b, bx', r, bo, z, hQ⟩ := hq vs H Q E q
  rw [fnsAt_at ed] at z
  unfold runDef at z
  split at z
  · refine run_body (E := fun _ _ _ => False) bo r ?_
    rw [z]
    intro v F' β' H' _ fr
    have fr' : Rep g.toGh F' β' H' v (.bl b) := fr
    cases fr'
    exact hQ H'
  · cases z
end
end Pv

/-! Pv.R: from the head's facts to the promises of all defs. -/
namespace Pv
open L2 PySem PyProof.Rows PySem.Spec

structure DefC (PI : PIn) (mk : List Nat) (i : Nat) (d : DefI) (st : Stmt) : Prop where
  sc : FnScope d.N d.ps (defScope st)
  bind : ∀ (kV doc pm : Value) (an : Option Addr) (cdv ct : Value) (us : List Value), us.length = d.ps.length → bindArgs (PySem.W.fnOf d.nm d.nm (defArgs st) (defBody st) (defScope st) .none kV doc pm an cdv ct) { pos := us } = pure (d.ps.zip us)
  comp : cSs 400 ⟨d.N, defScope st, fun _ => true, PIof PI mk i⟩ (defBody st) = some d.body
inductive AllC (PI : PIn) (mk : List Nat) : Nat → List (DefI × Stmt) → Prop
  | nil {i : Nat} : AllC PI mk i []
  | cons {i : Nat} {d : DefI} {st : Stmt} {r : List (DefI × Stmt)} : DefC PI mk i d st → AllC PI mk (i + 1) r → AllC PI mk i ((d, st) :: r)
theorem AllC.get {PI : PIn} {mk : List Nat} : ∀ {n : Nat} {l : List (DefI × Stmt)}, AllC PI mk n l → ∀ (i : Nat) (r : DefI × Stmt), l[i]? = some r → DefC PI mk (n + i) r.1 r.2
  | _, _, .cons a b, 0, r, e => by cases e; exact a
  | n, _, .cons a b, i + 1, r, e => by
    have := b.get i r (by simpa using e)
    rw [show n + (i + 1) = n + 1 + i by omega]
    exact this
structure HandC (PI : PIn) (d : DefI) (st : Stmt) (a : Str) : Prop where
  ps : d.ps = [a]
  sc : FnScope d.N [a] (defScope st)
  bind : ∀ (kV doc pm : Value) (an : Option Addr) (cdv ct : Value) (us : List Value), us.length = d.ps.length → bindArgs (PySem.W.fnOf d.nm d.nm (defArgs st) (defBody st) (defScope st) .none kV doc pm an cdv ct) { pos := us } = pure (d.ps.zip us)
  ok : okName a = true
  comp : cHand PI d.N (defScope st) a (defBody st) = some d.body
inductive AllH (PI : PIn) : List (DefI × Stmt) → Prop
  | nil : AllH PI []
  | cons {d : DefI} {st : Stmt} {a : Str} {r : List (DefI × Stmt)} : HandC PI d st a → AllH PI r → AllH PI ((d, st) :: r)
theorem AllH.get {PI : PIn} : ∀ {l : List (DefI × Stmt)}, AllH PI l → ∀ (i : Nat) (r : DefI × Stmt), l[i]? = some r → ∃ a, HandC PI r.1 r.2 a
  | _, .cons a b, 0, r, e => by cases e; exact ⟨_, a⟩
  | _, .cons a b, i + 1, r, e => b.get i r (by simpa using e)
def handsOf : Nat → List (DefI × Stmt) → List (Str × Nat)
  | _, [] => []
  | n, r :: l => (r.1.nm, n) :: handsOf (n + 1) l
theorem handsOf_get : ∀ {l : List (DefI × Stmt)} {n i : Nat} {x : Str}, (handsOf n l).lookup x = some i → ∃ k r, l[k]? = some r ∧ i = n + k ∧ x = r.1.nm
  | r :: l, n, i, x, h => by
    unfold handsOf at h
    rw [List.lookup_cons] at h
    split at h
    · rename_i e
      cases h
      exact ⟨0, r, rfl, rfl, eq_of_beq e⟩
    · obtain ⟨k, r', e1, e2, e3⟩ := handsOf_get h
      exact ⟨k + 1, r', by simpa using e1, by omega, e3⟩
  | [], n, i, x, h => by simp [handsOf] at h
def defD (r : DefI × Stmt) : He.DefD := ⟨(r.1.nm, none), r.1.nm, r.1.nm, defArgs r.2, defBody r.2, defScope r.2, [], []⟩
/-- what a constant asks of the written part -/
def conDv : D → Option He.Dv
  | .non => some .non
  | .bl b => some (.bl b)
  | .int i => some (.int i)
  | .str s => some (.str s)
  | _ => none
def conDvs : List D → Option (List He.Dv)
  | [] => some []
  | d :: ds => match conDv d, conDvs ds with
    | some v, some vs => some (v :: vs)
    | _, _ => none
def conOk (K : PySem.W.Frag) (x : Str) (d : D) : Bool := match d with
  | .int i => (He.Fa.int x i).ok K
  | .str z => (He.Fa.str x z).ok K
  | .tup ds => match conDvs ds with
    | some vs => (He.Fa.glo x).ok K && He.tupB K x vs
    | none => false
  | _ => false
/-- what isinstance asks of an own error's class -/
def excCB (K : PySem.W.Frag) (D : Addr) : Bool :=
  decide (PySem.W.findIn K (.ref D) "__getattribute__" = some (some (.builtin "BaseException.__getattribute__"))) && decide (PySem.W.findIn K (.ref D) "__getattr__" = some none) && decide (PySem.W.subIn K (.ref D) (.type "BaseException") = some true) &&
  PySem.W.hasDictIn K D && decide (PySem.W.findIn K (.ref D) "__class__" = some (some (.builtin "object.__class__"))) && decide (PySem.W.specialIn K (.builtin "object.__class__") "__get__" = some (some (.builtin "getset_descriptor.__get__"))) &&
  decide (PySem.W.takesIn K (.builtin "object.__class__") = some true) && decide (PySem.W.mroIn K D (.type "object") = some true)
theorem excCB_ok {K : PySem.W.Frag} {D : Addr} (h : excCB K D = true) : ExcC K D := by
  unfold excCB at h
  simp only [Bool.and_eq_true, decide_eq_true_eq] at h
  obtain ⟨⟨⟨⟨⟨⟨⟨h1, h2⟩, h3⟩, h4⟩, h5⟩, h6⟩, h7⟩, h8⟩ := h
  exact ⟨h1, h2, h3, h4, h5, h6, h7, h8⟩
def tabsOf (PI : PIn) (mk : List Nat) (K : PySem.W.Frag) : List (Addr × Str) := mk.filterMap fun i => (PI.defs[i]?).map fun q => ((He.cT K (q.1, none)).2, qOf q.1)
def tfOf (PI : PIn) (mk : List Nat) : List He.Defn := mk.filterMap fun i => (PI.defs[i]?).map fun q => (q.1, none)
def codeB (K : PySem.W.Frag) (p : He.Defn) : Bool := match K.lookup (He.fAd K p) with
  | some ⟨_, _, .func fd, _⟩ => decide (fd.code = .ref (He.cT K p).1)
  | _ => false
def subB (PI : PIn) (K : PySem.W.Frag) (C : Str) (tbl : List Nat) : Bool := (He.Fa.glo C).ok K && (List.range PI.cls.length).all fun k => match PI.cls[k]? with
  | some y => decide (PySem.W.kitOne K (.ref (He.ga K y)) (.ref (He.ga K C)) = some (tbl.contains k)) && decide (PySem.W.exmOne K (.ref (He.ga K y)) (.ref (He.ga K C)) = some (tbl.contains k))
  | none => false
def exOf (PI : PIn) (mk : List Nat) (K : PySem.W.Frag) : Bool := (PI.consts.all fun q => conOk K q.1 q.2) && (PI.bfs.all fun q => He.eqO (PySem.W.nsIn K mainGlobals q.1) (some (some (.builtin q.2)))) &&
  (PI.free.all fun x => (He.Fa.free x).ok K) && (PI.cls.all fun x => (He.Fa.glo x).ok K && (He.Fa.exc x).ok K && (PI.subs.isEmpty || excCB K (He.ga K x))) && (PI.defs.all fun q => (He.Fa.glo q.1).ok K) && (PI.hands.all fun q => (He.Fa.glo q.1).ok K) &&
  (PI.als.all fun q => match PI.defs[q.2]? with
    | some y => (He.Fa.glo q.1).ok K && decide (He.ga K q.1 = He.ga K y.1)
    | none => false) && (PI.subs.all fun q => subB PI K q.1 q.2) && ((tfOf PI mk).all fun p => codeB K p) && (tabsOf PI mk K).all fun p => (tabsOf PI mk K).all fun q => !decide (p.1 = q.1) || decide (p.2 = q.2)
theorem conDv_ok {K : PySem.W.Frag} {g : Gh} {d : D} {v : He.Dv} (h : conDv d = some v) (F : Addr → Prop) (β : List Addr) (H : Hp) : Rep g F β H (v.v K) d := by
  cases d <;> cases h
  · exact .non
  · exact .bl _
  · exact .int _
  · exact .str _
theorem conDvs_ok {K : PySem.W.Frag} {g : Gh} : ∀ {ds : List D} {vs : List He.Dv}, conDvs ds = some vs → ∀ (F : Addr → Prop) (β : List Addr) (H : Hp), RepAll g F β H (vs.map (He.Dv.v K)) ds
  | [], _, h, F, β, H => by cases h; exact .nil
  | d :: ds, vs, h, F, β, H => by
    unfold conDvs at h
    split at h
    · rename_i e1 e2
      cases h
      exact .cons (conDv_ok e1 F β H) (conDvs_ok e2 F β H)
    · cases h
theorem lookup_mem {α : Type} : ∀ {l : List (Str × α)} {x : Str} {a : α}, l.lookup x = some a → (x, a) ∈ l
  | (y, b) :: l, x, a, h => by
    rw [List.lookup_cons] at h
    split at h
    · rename_i e
      cases h
      cases eq_of_beq e
      exact .head _
    · exact .tail _ (lookup_mem h)
theorem con_ok {K : PySem.W.Frag} {h : Heap} {mg : Str → Option Value} (X : K.In h) (G : h.Ns mainGlobals mg) {x : Str} {d : D} (c : conOk K x d = true) : ∃ u v, mg x = some u ∧ RelV v u ∧ ∀ g : Gh, g.K = K → ∀ F β H, Rep g F β H v d := by
  unfold conOk at c
  split at c
  · obtain ⟨t, e⟩ := He.int_ok X G c
    exact ⟨_, .int _, e, ⟨t, rfl⟩, fun _ _ _ _ _ => .int _⟩
  · obtain ⟨t, e⟩ := He.str_ok X G c
    exact ⟨_, .str _, e, ⟨t, rfl⟩, fun _ _ _ _ _ => .str _⟩
  · split at c
    · rename_i vs ev
      obtain ⟨c1, c2⟩ := He.ba c
      exact ⟨_, .ref (He.ga K x), He.glo_ok X G c1, rfl, fun g hg F β H => .tup (by rw [hg]; exact He.tupB_ok c2 H) (conDvs_ok ev F β H)⟩
    · cases c
  · cases c
/-- the ground of a law: where its things lie -/
noncomputable def gOf (PI : PIn) (mk : List Nat) (K : PySem.W.Frag) : Gx := { K := K, fa := fun i => (PI.defs[i]?).map fun q => He.ga K q.1, T := tabsOf PI mk K, ex := none, ca := fun i => match PI.cls[i]? with | some x => He.ga K x | none => 0 }
open Classical in
noncomputable def atOf (l : List (DefI × Stmt)) (K : PySem.W.Frag) (fd0 : FuncData) (i : Nat) : FnAt := match l[i]? with
  | some (d, st) => ⟨st, He.fAd K (d.nm, none), if h : ∃ fd, FunD K d.nm d.nm (defArgs st) (defBody st) (defScope st) [] [] (He.fAd K (d.nm, none)) fd then choose h else fd0⟩
  | none => ⟨.Pass ⟨0, 0, 0, 0⟩, 0, fd0⟩
theorem fd_any {K : PySem.W.Frag} {l : List (DefI × Stmt)} (c : He.SaysD [] (l.map defD) K) (r : DefI × Stmt) (h : r ∈ l) : ∃ fd, FunD K r.1.nm r.1.nm (defArgs r.2) (defBody r.2) (defScope r.2) [] [] (He.fAd K (r.1.nm, none)) fd :=
  He.SaysD.defs c (d := defD r) (List.mem_map_of_mem h)
open Classical in
theorem at_get {K : PySem.W.Frag} {l : List (DefI × Stmt)} {fd0 : FuncData} (c : He.SaysD [] (l.map defD) K) {i : Nat} {d' : DefI} {st : Stmt} (e : l[i]? = some (d', st)) :
    FunD K d'.nm d'.nm (defArgs (atOf l K fd0 i).st) (defBody (atOf l K fd0 i).st) (defScope (atOf l K fd0 i).st) [] [] (atOf l K fd0 i).f (atOf l K fd0 i).fd ∧ (atOf l K fd0 i).st = st ∧ (atOf l K fd0 i).f = He.fAd K (d'.nm, none) := by
  have fx := fd_any c _ (List.mem_of_getElem? e)
  unfold atOf
  rw [e]
  show FunD K d'.nm d'.nm (defArgs st) (defBody st) (defScope st) [] [] (He.fAd K (d'.nm, none)) (if h : ∃ fd, FunD K d'.nm d'.nm (defArgs st) (defBody st) (defScope st) [] [] (He.fAd K (d'.nm, none)) fd then Classical.choose h else fd0) ∧ st = st ∧ He.fAd K (d'.nm, none) = He.fAd K (d'.nm, none)
  rw [dif_pos fx]
  exact ⟨Classical.choose_spec fx, rfl, rfl⟩
theorem prg_of {P : Program} {w : World} {K : PySem.W.Frag} {h base : Heap} {mg : Str → Option Value} {PI : PIn} {mk : List Nat} {l lh : List (DefI × Stmt)} (fd0 : FuncData) (X : K.In h) (G : h.Ns mainGlobals mg) (c : He.SaysX [] ((l ++ lh).map defD) [] (tfOf PI mk) (exOf PI mk) w h K)
    (hc : AllC PI mk 0 l) (hh : AllH PI lh) (hP : PI.defs = l.map fun r => (r.1.nm, r.1.ps.length)) (hH : PI.hands = handsOf l.length lh) (hot : PI.hot = false) (exq : PI.exq = false) (hT : ∀ p ∈ (tfOf PI mk).map (He.cT K), LamX.TabB base mg p.1 p.2) :
    PrgOk P w K mg base (gOf PI mk K) PI mk (l.map (·.1)) (lh.map (·.1)) (atOf (l ++ lh) K fd0) := by
  have cm := c.more
  unfold exOf at cm
  simp only [Bool.and_eq_true, List.all_eq_true] at cm
  obtain ⟨⟨⟨⟨⟨⟨⟨⟨⟨c1, c2⟩, c3⟩, c4⟩, c5⟩, c6⟩, c7⟩, c8⟩, c9⟩, c10⟩ := cm
  have lget : ∀ {i : Nat} {r : DefI × Stmt}, l[i]? = some r → (l ++ lh)[i]? = some r := fun {i r} e => by rw [List.getElem?_append_left (List.getElem?_eq_some_iff.mp e).1]; exact e
  have dget : ∀ {i : Nat} {d : DefI}, (l.map (·.1))[i]? = some d → ∃ st, l[i]? = some (d, st) := fun {i d} e => by
    rw [List.getElem?_map, Option.map_eq_some_iff] at e
    obtain ⟨⟨d', st⟩, e, rfl⟩ := e
    exact ⟨st, e⟩
  have memD : ∀ {d : DefI} {st : Stmt}, (d, st) ∈ l → (d.nm, d.ps.length) ∈ PI.defs := fun {d st} m => by
    rw [hP]
    exact List.mem_map.mpr ⟨_, m, rfl⟩
  refine ⟨rfl, by rw [hP, List.map_map]; rfl, hot, exq, fun k f => ?_, fun x d e => ?_, fun x e => He.free_ok X G (c3 x (by simpa using e)), fun x id e => PySem.W.mg_of X G (He.eqO_ok (c2 _ (lookup_mem e))), fun i x e => ?_, fun x k e => ?_, ⟨fun C tbl e => ?_, fun k hk ne => ?_⟩, fun i d e => ?_, fun x i e => ?_, fun i d e hm => ?_⟩
  · constructor
    · intro e
      have e : (PI.defs[k]?).map (fun q => He.ga K q.1) = some f := e
      rw [hP, List.getElem?_map, Option.map_map, Option.map_eq_some_iff] at e
      obtain ⟨⟨d, st⟩, e1, e2⟩ := e
      refine ⟨d, by rw [List.getElem?_map, e1]; rfl, ?_⟩
      rw [(at_get (fd0 := fd0) c.t.d (lget e1)).2.2]
      exact e2.symm
    · rintro ⟨d, e, rfl⟩
      obtain ⟨st, e⟩ := dget e
      show (PI.defs[k]?).map (fun q => He.ga K q.1) = _
      rw [(at_get (fd0 := fd0) c.t.d (lget e)).2.2, hP, List.getElem?_map, e]
      rfl
  · obtain ⟨u, v, h1, h2, h3⟩ := con_ok X G (c1 _ (lookup_mem e))
    exact ⟨u, v, h1, h2, fun g' hg _ => h3 g'.toGh hg⟩
  · have m := List.mem_of_getElem? e
    have q := c4 x m
    have e1 : (gOf PI mk K).ca i = He.ga K x := by
      show (match PI.cls[i]? with | some x => He.ga K x | none => 0) = _
      rw [e]
    rw [e1]
    obtain ⟨q1, q2, q3, q4⟩ := He.exc_ok q.1.2
    exact ⟨⟨_, _, _, _, PySem.F.excBase_ValueError, q1⟩, He.glo_ok X G q.1.1, q2, q3, q4⟩
  · have q := c7 _ (lookup_mem e)
    cases ed : PI.defs[k]? with
    | none => simp only [ed] at q; cases q
    | some y =>
      simp only [ed, Bool.and_eq_true, decide_eq_true_eq] at q
      have ed' := ed
      rw [hP, List.getElem?_map, Option.map_eq_some_iff] at ed'
      obtain ⟨r, er, ey⟩ := ed'
      refine ⟨r.1, by rw [List.getElem?_map, er]; rfl, ?_⟩
      rw [He.glo_ok X G q.1, q.2, ← ey]
      exact (He.glo_ok X G (c5 (r.1.nm, r.1.ps.length) (memD (List.mem_of_getElem? er)))).symm
  · have q := c8 _ (lookup_mem e)
    unfold subB at q
    simp only [Bool.and_eq_true, List.all_eq_true] at q
    refine ⟨_, He.glo_ok X G q.1, fun k hk => ?_⟩
    have q2 := q.2 k (List.mem_range.mpr hk)
    rw [List.getElem?_eq_getElem hk] at q2
    simp only [Bool.and_eq_true, decide_eq_true_eq] at q2
    have e1 : (gOf PI mk K).ca k = He.ga K PI.cls[k] := by
      show (match PI.cls[k]? with | some x => He.ga K x | none => 0) = _
      rw [List.getElem?_eq_getElem hk]
    rw [e1]
    exact q2
  · have q := (c4 PI.cls[k] (List.getElem_mem hk)).2
    have e1 : (gOf PI mk K).ca k = He.ga K PI.cls[k] := by
      show (match PI.cls[k]? with | some x => He.ga K x | none => 0) = _
      rw [List.getElem?_eq_getElem hk]
    rw [e1]
    simp only [Bool.or_eq_true, List.isEmpty_iff] at q
    exact excCB_ok (q.elim (fun z => absurd z ne) id)
  · obtain ⟨st, e⟩ := dget e
    have D := hc.get i _ e
    rw [Nat.zero_add] at D
    obtain ⟨F, e1, e2⟩ := at_get (fd0 := fd0) c.t.d (lget e)
    refine ⟨F, ?_, by rw [e1]; exact D.sc, ?_, by rw [e1]; exact D.comp⟩
    · rw [e2]
      exact He.glo_ok X G (c5 (d.nm, d.ps.length) (memD (List.mem_of_getElem? e)))
    · rw [e1] at F
      exact FunD.bindsN F D.bind
  · have em := lookup_mem e
    rw [hH] at e
    obtain ⟨k, r, e1, e2, e3⟩ := handsOf_get e
    obtain ⟨a, Hc⟩ := hh.get k r e1
    have e4 : (l ++ lh)[i]? = some (r.1, r.2) := by rw [e2, List.getElem?_append_right (by omega), Nat.add_sub_cancel_left]; exact e1
    obtain ⟨F, f1, f2⟩ := at_get (fd0 := fd0) c.t.d e4
    refine ⟨r.1, a, ?_, e3, Hc.ps, F, ?_, by rw [f1]; exact Hc.sc, ?_, Hc.ok, by rw [f1]; exact Hc.comp⟩
    · rw [← List.map_append, List.getElem?_map, e4]; rfl
    · rw [f2, ← e3]
      exact He.glo_ok X G (c6 _ em)
    · rw [f1] at F
      have := FunD.bindsN F Hc.bind
      rw [Hc.ps] at this
      exact this
  · obtain ⟨st, e⟩ := dget e
    have ed : PI.defs[i]? = some (d.nm, d.ps.length) := by rw [hP, List.getElem?_map, e]; rfl
    have im : i ∈ mk := by simpa using hm
    have mt : (d.nm, none) ∈ tfOf PI mk := List.mem_filterMap.mpr ⟨i, im, by rw [ed]; rfl⟩
    have mT : ((He.cT K (d.nm, none)).2, qOf d.nm) ∈ tabsOf PI mk K := List.mem_filterMap.mpr ⟨i, im, by rw [ed]; rfl⟩
    obtain ⟨F, f1, f2⟩ := at_get (fd0 := fd0) c.t.d (lget e)
    refine ⟨(He.cT K (d.nm, none)).1, (He.cT K (d.nm, none)).2, ?_, hT _ (List.mem_map_of_mem mt), mT, fun p hp ep => ?_⟩
    · have q := c9 _ mt
      obtain ⟨oc, od, dV, kV, doc, pm, an, cdv, ct, osl, efd, lk, _⟩ := F.ex
      unfold codeB at q
      rw [← f2, lk] at q
      exact of_decide_eq_true q
    · have q := c10 p hp _ mT
      simp only [Bool.or_eq_true, Bool.not_eq_true', decide_eq_false_iff_not, decide_eq_true_eq] at q
      exact q.elim (fun z => absurd ep z) id
end Pv

/-! Pv.S: the law's own promise. -/
namespace Pv
open L2 PySem PyProof.Rows PySem.Spec
def spLaw (K : PySem.W.Frag) (T : List (Addr × Str)) : Sp := fun vs H Q _ => ∃ (a : Addr) (ns : List Int), vs = [.ref a] ∧ ns.length ≤ 63 ∧ SqL K H a (ns.map V.int) ∧ LamX.Tabs T H ∧ ∀ H', Q (.bl true) H'
theorem law_fn {P : Program} {w : World} {K : PySem.W.Frag} {mg : Str → Option Value} {base : Heap} {g : Gx} {PI : PIn} {mk : List Nat} {ds hs : List DefI} {at_ : Nat → FnAt} (h : PrgOk P w K mg base g PI mk ds hs at_) {fu n i : Nat} {d : DefI} (ed : ds[i]? = some d)
    (hp : d.ps.length = 1) (hv : ∀ ns : List Int, ns.length ≤ 63 → ∃ bx', fnsAt (ds ++ hs) fu (n + 1) i [.scr ns] [] = .ok ⟨.bl true, false, bx'⟩) :
    FnOk P w K mg base CX0 (3 * n + 4) (at_ i).f (at_ i).fd d.ps (spLaw K g.T) := by
  refine law_ok h fu n i d ed (fun vs H Q E ⟨a, ns, e, _⟩ => by rw [e, hp]; rfl) fun vs H Q E ⟨a, ns, e, hl, hS, hT, hq⟩ => ?_
  obtain ⟨bx', ev⟩ := hv ns hl
  subst e
  refine ⟨fun p => p = a ∧ ∃ u, H p = some u, [], [], [.scr ns], true, bx', .cons (.scr ?_) .nil, ⟨rfl, List.nodup_nil, fun k a e => by simp at e, fun p f => f.2, hT⟩, ev, hq⟩
  rw [h.hK]
  rcases hS with r | r
  · refine .inl ⟨⟨rfl, ?_⟩, r⟩
    rcases r with r | ⟨o, r⟩ <;> exact ⟨_, r⟩
  · exact .inr (.inr r)
theorem law_all {l0 : PySem.W.OpenLaw} {w : World} {K : PySem.W.Frag} {h : Heap} {mg : Str → Option Value} {PI : PIn} {mk : List Nat} {l lh : List (DefI × Stmt)} {fa : Addr} (X : K.In h) (G : h.Ns mainGlobals mg) (c : He.SaysX [] ((l ++ lh).map defD) [] (tfOf PI mk) (exOf PI mk) w h K)
    (hc : AllC PI mk 0 l) (hh : AllH PI lh) (hP : PI.defs = l.map fun r => (r.1.nm, r.1.ps.length)) (hH : PI.hands = handsOf l.length lh) (hot : PI.hot = false) (exq : PI.exq = false) {fu n i : Nat} {r : DefI × Stmt} (er : l[i]? = some r) (hp : r.1.ps = ([("script" : Str)] : List Str)) (hm : mg r.1.nm = some (.ref fa))
    (hv : ∀ ns : List Int, ns.length ≤ 63 → ∃ bx', fnsAt ((l ++ lh).map (·.1)) fu (n + 1) i [.scr ns] [] = .ok ⟨.bl true, false, bx'⟩) : LamX.LawAtS l0 w K CX0 (3 * n + 4) 63 ("script" : Str) mg fa h := by
  obtain ⟨fd0, _⟩ := fd_any c.t.d r (List.mem_append_left _ (List.mem_of_getElem? er))
  have ed : (l.map (·.1))[i]? = some r.1 := by rw [List.getElem?_map, er]; rfl
  have e4 : (l ++ lh)[i]? = some (r.1, r.2) := by rw [List.getElem?_append_left (List.getElem?_eq_some_iff.mp er).1]; exact er
  obtain ⟨F, est, ef⟩ := at_get (fd0 := fd0) c.t.d e4
  have D := hc.get i r er
  have mD : (r.1.nm, r.1.ps.length) ∈ PI.defs := by rw [hP]; exact List.mem_map.mpr ⟨_, List.mem_of_getElem? er, rfl⟩
  have ef2 : (atOf (l ++ lh) K fd0 i).f = fa := by
    have cm := c.more
    unfold exOf at cm
    simp only [Bool.and_eq_true, List.all_eq_true] at cm
    have z := He.glo_ok X G (cm.1.1.1.1.1.2 _ mD)
    rw [hm] at z
    rw [ef]
    cases z
    rfl
  refine ⟨(atOf (l ++ lh) K fd0 i).fd, (tfOf PI mk).map (He.cT K), spLaw K (tabsOf PI mk K), fun p hp => ?_, fun p hp => ?_, fun p hp => ?_, fun s u => ?_, fun H a ns hl _ hT hS => ⟨a, ns, rfl, hl, hS, fun p hp => ?_, fun _ => rfl⟩, fun base hK hN hT => ?_⟩
  · obtain ⟨q, hq, rfl⟩ := List.mem_map.mp hp
    exact c.empty q hq
  · obtain ⟨q, hq, rfl⟩ := List.mem_map.mp hp
    exact c.out q hq
  · obtain ⟨q, hq, rfl⟩ := List.mem_map.mp hp
    exact PySem.W.codeHd_of_K X (c.hd q hq)
  · rw [est] at F
    have := FunD.bindsA (ps := [("script" : Str)]) F (by rw [← hp]; exact D.bind) s [u] rfl
    exact this
  · obtain ⟨j, hj, e⟩ := List.mem_filterMap.mp hp
    rw [Option.map_eq_some_iff] at e
    obtain ⟨q, eq, e⟩ := e
    have m : (q.1, none) ∈ tfOf PI mk := List.mem_filterMap.mpr ⟨j, hj, by rw [eq]; rfl⟩
    rw [← e]
    exact LamX.TabS.nil (hT _ (List.mem_map_of_mem m))
  · have PK : PrgOk l0.prog w K mg base (gOf PI mk K) PI mk (l.map (·.1)) (lh.map (·.1)) (atOf (l ++ lh) K fd0) := prg_of fd0 X G c hc hh hP hH hot exq hT
    have := law_fn PK (fu := fu) (n := n) ed (by rw [hp]; rfl) (by rw [← List.map_append]; exact hv)
    rw [ef2, hp] at this
    exact this
end Pv

/-! Pv.T: the equations of the value functions, for simp. -/
namespace Pv
open L2 PySem PyProof.Rows PySem.Spec
variable {c : Fns} {n : Nat} {vs : Vs} {bx : Bx}
@[simp] theorem run_def {fu : Nat} {d : DefI} {xs : List D} : runDef fu c d xs bx = if xs.length = d.ps.length then (d.body.den c fu (startV d.N.length xs) bx).res else .stuck := rfl
@[simp] theorem res_next : (Out.next vs bx).res = .ok ⟨.non, false, bx⟩ := rfl
@[simp] theorem res_ret {d : D} {fr : Bool} : (Out.ret d fr bx).res = .ok ⟨d, fr, bx⟩ := rfl
@[simp] theorem res_exc {x : Xc} : (Out.exc x vs bx).res = .exc x bx := rfl
@[simp] theorem out_ok {α : Type} {a : α} {k : α → Out} : (Res.ok a).out vs k = k a := rfl
@[simp] theorem out_exc {α : Type} {x : Xc} {k : α → Out} : (Res.exc x bx : Res α).out vs k = .exc x vs bx := rfl
@[simp] theorem bind_next {k : Vs → Bx → Out} : (Out.next vs bx).bind k = k vs bx := rfl
@[simp] theorem bind_ret {k : Vs → Bx → Out} {d : D} {fr : Bool} : (Out.ret d fr bx).bind k = .ret d fr bx := rfl
@[simp] theorem bind_oexc {k : Vs → Bx → Out} {x : Xc} : (Out.exc x vs bx).bind k = .exc x vs bx := rfl
@[simp] theorem bind_brk {k : Vs → Bx → Out} : (Out.brk vs bx).bind k = .brk vs bx := rfl
@[simp] theorem bind_cnt {k : Vs → Bx → Out} : (Out.cnt vs bx).bind k = .cnt vs bx := rfl
theorem res_ite {p : Prop} [Decidable p] {a b : Out} : (if p then a else b).res = if p then a.res else b.res := by split <;> rfl
theorem obind_ite {p : Prop} [Decidable p] {a b : Out} {k : Vs → Bx → Out} : (if p then a else b).bind k = if p then a.bind k else b.bind k := by split <;> rfl
theorem rbind_ite {α β : Type} {p : Prop} [Decidable p] {a b : Res α} {k : α → Res β} : (if p then a else b).bind k = if p then a.bind k else b.bind k := by split <;> rfl
theorem rout_ite {α : Type} {p : Prop} [Decidable p] {a b : Res α} {k : α → Out} : (if p then a else b).out vs k = if p then a.out vs k else b.out vs k := by split <;> rfl

/-! statements -/
@[simp] theorem S_skip : IS.skip.den c n vs bx = .next vs bx := rfl
@[simp] theorem S_brk : IS.brk.den c n vs bx = .brk vs bx := rfl
@[simp] theorem S_cnt : IS.cnt.den c n vs bx = .cnt vs bx := rfl
@[simp] theorem S_seq {a b : IS} : (IS.seq a b).den c n vs bx = (a.den c n vs bx).bind fun vs1 bx1 => b.den c n vs1 bx1 := rfl
@[simp] theorem S_asg {i : Nat} {e : IE} : (IS.asg i e).den c n vs bx = (e.den c vs bx).out vs fun r => .next (putSlot i r vs) r.bx := rfl
@[simp] theorem S_asgG {t : Tgt} {e : IE} : (IS.asgG t e).den c n vs bx = (e.den c vs bx).out vs fun r => match t.bind r.d (freeze r.ls vs) with
  | some vs1 => .next vs1 r.bx
  | none => .stuck := rfl
@[simp] theorem S_par {is : List Nat} {as : IA} : (IS.par is as).den c n vs bx = (as.denS c vs bx).out vs fun r => match parSlots is r.ds (freeze r.l vs) with
  | some vs1 => .next vs1 r.bx
  | none => .stuck := rfl
@[simp] theorem S_parO {i j : Nat} {a b : IE} : (IS.parO i j a b).den c n vs bx = (a.den c vs bx).out vs fun r1 => (b.den c vs r1.bx).out vs fun r2 =>
  if okP r1 && okP r2 then .next ((vs.set i (slotOf r1)).set j (slotOf r2)) r2.bx else .stuck := rfl
@[simp] theorem okP_sh {d : D} : okP ⟨d, [], .sh, bx⟩ = true := rfl
@[simp] theorem okP_fr {d : D} : okP ⟨d, [], .fr, bx⟩ = true := rfl
@[simp] theorem slotOf_sh {d : D} {l : List Nat} : slotOf ⟨d, l, .sh, bx⟩ = .val d := rfl
@[simp] theorem slotOf_fr {d : D} {l : List Nat} : slotOf ⟨d, l, .fr, bx⟩ = .own d := rfl
@[simp] theorem S_boxAsg {i : Nat} {e : IE} : (IS.boxAsg i e).den c n vs bx = (e.den c vs bx).out vs fun r => match r.pv, r.d with
  | .fr, .lst ds => match intsOf ds with
    | some ns => .next ((freeze r.l vs).set i (.val (.box r.bx.length))) (r.bx ++ [ns])
    | none => .stuck
  | _, _ => .stuck := rfl
@[simp] theorem S_expr {e : IE} : (IS.expr e).den c n vs bx = (e.den c vs bx).out vs fun r => .next vs r.bx := rfl
@[simp] theorem S_ret {e : IE} : (IS.ret e).den c n vs bx = (e.den c vs bx).out vs fun r => match r.pv with
  | .sh => .ret r.d false r.bx
  | .fr => .ret r.d true r.bx
  | .ow _ => .ret r.d true r.bx := rfl
@[simp] theorem S_retN : IS.retN.den c n vs bx = .ret .non false bx := rfl
@[simp] theorem S_ite {t : IT} {a b : IS} : (IS.ite t a b).den c n vs bx = (t.den c vs bx).out vs fun r => if r.1 = true then a.den c n vs r.2 else b.den c n vs r.2 := rfl
@[simp] theorem S_for {s : II} {t : Tgt} {b : IS} : (IS.for_ s t b).den c n vs bx = (s.den c vs bx).out vs fun r => forL t (b.den c n) r.ds (freeze r.l vs) r.bx := rfl
@[simp] theorem S_while {t : IT} {b : IS} : (IS.while_ t b).den c n vs bx = whileL (t.den c) (b.den c n) n vs bx := rfl
@[simp] theorem S_append {i : Nat} {e : IE} : (IS.append i e).den c n vs bx = match vs[i]? with
  | some (.own (.lst ds)) => (e.den c vs bx).out vs fun r => if i ∈ r.ls then .stuck else if ds.length < lim then .next ((freeze r.ls vs).set i (.own (.lst (ds ++ [r.d])))) r.bx else .stuck
  | _ => .stuck := rfl
@[simp] theorem S_store {i : Nat} {k e : IE} : (IS.store i k e).den c n vs bx = evStore i k.den e.den c n vs bx := rfl
@[simp] theorem S_storeT {i : Nat} {as : IA} {e : IE} : (IS.storeT i as e).den c n vs bx = evStoreT i as.denS e.den c n vs bx := rfl
@[simp] theorem S_raise {k : Nat} : (IS.raise k).den c n vs bx = .exc ⟨k, none⟩ vs bx := rfl

def chn {α : Type} (q : Option (D × Bool)) (a b s : α) : α := match q with
  | some (.bl true, false) => a
  | some (.bl false, false) => b
  | _ => s
@[simp] theorem chn_bl {α : Type} {k : Bool} {a b s : α} : chn (some (.bl k, false)) a b s = if k = true then a else b := by cases k <;> rfl
def tsel {α : Type} (q : Option Bool) (a b s : α) : α := match q with
  | some true => a
  | some false => b
  | none => s
@[simp] theorem tsel_some {α : Type} {k : Bool} {a b s : α} : tsel (some k) a b s = if k = true then a else b := by cases k <;> rfl
@[simp] theorem truD_bl {b : Bool} : truD (.bl b) = some b := rfl
@[simp] theorem truD_non : truD .non = some false := rfl
@[simp] theorem truD_int {i : Int} : truD (.int i) = some (i != 0) := rfl
@[simp] theorem truD_lst {xs : List D} : truD (.lst xs) = some (!xs.isEmpty) := rfl
@[simp] theorem truD_tup {xs : List D} : truD (.tup xs) = some (!xs.isEmpty) := rfl
/-! expressions -/
@[simp] theorem E_var {i : Nat} : (IE.var i).den c vs bx = match vs[i]? with
  | some (.val d) => .ok ⟨d, [], .sh, bx⟩
  | some (.own d) => .ok ⟨d, [], .ow i, bx⟩
  | _ => .stuck := rfl
@[simp] theorem E_con {d : D} : (IE.con d).den c vs bx = .ok ⟨d, [], .sh, bx⟩ := rfl
@[simp] theorem E_op {o : O2} {a b : IE} : (IE.op o a b).den c vs bx = (a.den c vs bx).bind fun r1 => (b.den c vs r1.bx).bind fun r2 => fin (o.den r1.d r2.d) (r1.l ++ r2.l) r2.bx := rfl
@[simp] theorem E_neg {a : IE} : (IE.neg a).den c vs bx = (a.den c vs bx).bind fun r1 => fin (negD r1.d) r1.l r1.bx := rfl
@[simp] theorem E_ix {a b : IE} : (IE.ix a b).den c vs bx = (a.den c vs bx).bind fun r1 => (b.den c vs r1.bx).bind fun r2 => match r1.d.boxN with
  | some k => match r2.d, r2.bx[k]? with
    | .int i, some ns => fin ((atD (ns.map .int) i).map fun d => (d, false)) [] r2.bx
    | _, _ => .stuck
  | none => fin (ixD r1.d r2.d) (r1.l ++ r2.l) r2.bx := rfl
@[simp] theorem E_cb {o : OC} {as : IA} : (IE.cb o as).den c vs bx = (as.denC c vs bx).bind fun r => fin (o.den r.ds) r.l r.bx := rfl
@[simp] theorem E_isi {T : String} {a : IE} : (IE.isi T a).den c vs bx = (a.den c vs bx).bind fun r => fin (isiD T [r.d]) r.l r.bx := by
  show ((evConsC a.den evNil) c vs bx).bind _ = _
  unfold evConsC evNil
  cases a.den c vs bx <;> simp
@[simp] theorem E_andV {a b : IE} : (IE.andV a b).den c vs bx = (a.den c vs bx).bind fun r => tsel (truD r.d) (b.den c vs r.bx) (.ok r) .stuck := rfl
@[simp] theorem E_orV {a b : IE} : (IE.orV a b).den c vs bx = (a.den c vs bx).bind fun r => tsel (truD r.d) (.ok r) (b.den c vs r.bx) .stuck := rfl
@[simp] theorem E_notV {a : IE} : (IE.notV a).den c vs bx = (a.den c vs bx).bind fun r => match truD r.d with
  | some b => .ok ⟨.bl (!b), [], .sh, r.bx⟩
  | none => .stuck := rfl
@[simp] theorem E_ite {t : IT} {a b : IE} : (IE.ite t a b).den c vs bx = (t.den c vs bx).bind fun r => if r.1 = true then a.den c vs r.2 else b.den c vs r.2 := rfl
@[simp] theorem E_chain {o o' : O2} {f1 f2 f3 : IE} : (IE.chain o o' f1 f2 f3).den c vs bx = (f1.den c vs bx).bind fun r1 => (f2.den c vs r1.bx).bind fun r2 => chn (o.den r1.d r2.d) ((f3.den c vs r2.bx).bind fun r3 => match o'.den r2.d r3.d with
      | some (.bl k, false) => .ok ⟨.bl k, [], .sh, r3.bx⟩
      | _ => .stuck) (.ok ⟨.bl false, [], .sh, r2.bx⟩) .stuck := rfl
@[simp] theorem E_tup {as : IA} : (IE.tup as).den c vs bx = (as.denS c vs bx).bind fun r => fin (tupD r.ds) r.l r.bx := rfl
@[simp] theorem E_lst {as : IA} : (IE.lst as).den c vs bx = (as.denS c vs bx).bind fun r => fin (lstD r.ds) r.l r.bx := rfl
@[simp] theorem E_call {i m : Nat} {as : IA} : (IE.call i m as).den c vs bx = (as.denS c vs bx).bind fun r => if r.ds.length = m then (c i r.ds r.bx).bind fun q => .ok ⟨q.d, nrm q.d q.fr r.l, if q.fr then .fr else .sh, q.bx⟩ else .stuck := rfl
@[simp] theorem E_lc {s : II} {t : Tgt} {tst : IT} {elt : IE} {own : List Nat} : (IE.lc s t tst elt own).den c vs bx = (s.den c vs bx).bind fun r =>
  match lcL t (tst.den c) (elt.den c) r.ds (wipeV own (freeze r.l vs)) r.bx with
  | .ok q => fin (lstD q.ds) (r.l ++ q.l) q.bx
  | _ => .stuck := rfl
@[simp] theorem E_dK : IE.dK.den c vs bx = .ok ⟨.dK [], [], .fr, bx⟩ := rfl
@[simp] theorem E_dT : IE.dT.den c vs bx = .ok ⟨.dT [], [], .fr, bx⟩ := rfl
@[simp] theorem E_sl {a : IE} {lo hi : IP} : (IE.sl a lo hi).den c vs bx = evSl a.den lo.den hi.den c vs bx := rfl
@[simp] theorem E_rev {a : IE} : (IE.rev a).den c vs bx = (a.den c vs bx).bind fun r => match r.d with
  | .lst ds => fin (some (.lst ds.reverse, true)) r.l r.bx
  | .tup ds => fin (some (.tup ds.reverse, false)) r.l r.bx
  | _ => .stuck := rfl
def lamK (i : Nat) (c : Fns) (r : Res ER) : Res ER := match r with
  | .ok r => strR (c i [.non] r.bx)
  | .exc x bx1 => strR (c i [.exn x] bx1)
  | .stuck => .stuck
@[simp] theorem lamK_ok {i : Nat} {r : ER} : lamK i c (.ok r) = strR (c i [.non] r.bx) := rfl
@[simp] theorem lamK_exc {i : Nat} {x : Xc} : lamK i c (.exc x bx) = strR (c i [.exn x] bx) := rfl
@[simp] theorem strR_str {z : Str} {fr : Bool} : strR (.ok ⟨.str z, fr, bx⟩) = .ok ⟨.str z, [], .sh, bx⟩ := rfl
@[simp] theorem E_lam {i : Nat} {a : IE} : (IE.lam i a).den c vs bx = lamK i c (a.den c vs bx) := by
  show evLam i a.den c vs bx = _
  unfold evLam lamK
  cases a.den c vs bx <;> rfl
@[simp] theorem E_callV {j m : Nat} {as : IA} : (IE.callV j m as).den c vs bx = match (vs[j]? : Option Slot) with
  | some (.val (.fn k)) => (as.denS c vs bx).bind fun r => if r.ds.length = m then (c k r.ds r.bx).bind fun q => .ok ⟨q.d, nrm q.d q.fr r.l, if q.fr then .fr else .sh, q.bx⟩ else .stuck
  | _ => .stuck := rfl
@[simp] theorem flat_fn {k : Nat} : (D.fn k).flat = true := rfl
@[simp] theorem P_none : IP.none.den = none := rfl
@[simp] theorem P_some {e : IE} : (IP.some e).den = some e.den := rfl
@[simp] theorem A_nilS : IA.nil.denS c vs bx = .ok ⟨[], [], bx⟩ := rfl
@[simp] theorem A_nilC : IA.nil.denC c vs bx = .ok ⟨[], [], bx⟩ := rfl
@[simp] theorem A_consS {e : IE} {r : IA} : (IA.cons e r).denS c vs bx = (e.den c vs bx).bind fun a => (r.denS c vs a.bx).bind fun q => .ok ⟨a.d :: q.ds, a.ls ++ q.l, q.bx⟩ := rfl
@[simp] theorem A_consC {e : IE} {r : IA} : (IA.cons e r).denC c vs bx = (e.den c vs bx).bind fun a => (r.denC c vs a.bx).bind fun q => .ok ⟨a.d :: q.ds, a.l ++ q.l, q.bx⟩ := rfl
/-! tests -/
@[simp] theorem T_yes : IT.yes.den c vs bx = .ok (true, bx) := rfl
@[simp] theorem T_tst {e : IE} : (IT.tst e).den c vs bx = (e.den c vs bx).bind fun r => match r.d with
  | .bl b => .ok (b, r.bx)
  | _ => .stuck := rfl
@[simp] theorem T_tru {e : IE} : (IT.tru e).den c vs bx = (e.den c vs bx).bind fun r => match truD r.d with
  | some b => .ok (b, r.bx)
  | none => .stuck := rfl
@[simp] theorem T_and {a b : IT} : (IT.and a b).den c vs bx = (a.den c vs bx).bind fun r => if r.1 = true then b.den c vs r.2 else .ok (false, r.2) := rfl
@[simp] theorem T_or {a b : IT} : (IT.or a b).den c vs bx = (a.den c vs bx).bind fun r => if r.1 = true then .ok (true, r.2) else b.den c vs r.2 := rfl
@[simp] theorem T_not {a : IT} : (IT.not a).den c vs bx = (a.den c vs bx).bind fun r => .ok (!r.1, r.2) := rfl
/-! iterators -/
@[simp] theorem I_it {e : IE} : (II.it e).den c vs bx = (e.den c vs bx).bind fun r => match r.d with
  | .lst ds => .ok ⟨ds, r.ls, r.bx⟩
  | .tup ds => .ok ⟨ds, r.ls, r.bx⟩
  | _ => .stuck := rfl
@[simp] theorem I_rng1 {e : IE} : (II.rng1 e).den c vs bx = (e.den c vs bx).bind fun r => match r.d with
  | .int j => if decide (-4611686018427387904 ≤ j) && decide (j < 4611686018427387904) then .ok ⟨rgD 0 j.toNat, [], r.bx⟩ else .stuck
  | _ => .stuck := rfl
@[simp] theorem I_rng2 {a b : IE} : (II.rng2 a b).den c vs bx = (a.den c vs bx).bind fun r1 => (b.den c vs r1.bx).bind fun r2 => match r1.d, r2.d with
  | .int i, .int j => if decide (-4611686018427387904 ≤ i) && decide (i < 4611686018427387904) && decide (-4611686018427387904 ≤ j) && decide (j < 4611686018427387904) then .ok ⟨rgD i (j - i).toNat, [], r2.bx⟩ else .stuck
  | _, _ => .stuck := rfl
@[simp] theorem I_zip {as : IA} : (II.zip as).den c vs bx = (as.denS c vs bx).bind fun r => match r.ds with
  | [.lst xs, .lst ys] => .ok ⟨zipD xs ys, r.l, r.bx⟩
  | [.tup xs, .tup ys] => .ok ⟨zipD xs ys, r.l, r.bx⟩
  | _ => .stuck := rfl
@[simp] theorem I_enum {as : IA} : (II.enum as).den c vs bx = (as.denS c vs bx).bind fun r => match r.ds with
  | [.lst xs] => .ok ⟨enumD 0 xs, r.l, r.bx⟩
  | [.tup xs] => .ok ⟨enumD 0 xs, r.l, r.bx⟩
  | _ => .stuck := rfl
/-! operations -/
@[simp] theorem fin_some {d : D} {fr : Bool} {l : List Nat} : fin (some (d, fr)) l bx = .ok ⟨d, nrm d fr l, if fr then .fr else .sh, bx⟩ := rfl
@[simp] theorem nrm_nil {d : D} {fr : Bool} : nrm d fr [] = [] := rfl
@[simp] theorem nrm_cons {d : D} {fr : Bool} {i : Nat} {l : List Nat} : nrm d fr (i :: l) = if (if fr then flatEls d else d.flat) = true then [] else i :: l := rfl
@[simp] theorem flatEls_lst {xs : List D} : flatEls (.lst xs) = flats xs := rfl
@[simp] theorem flats_nil : flats [] = true := rfl
@[simp] theorem flats_cons {d : D} {xs : List D} : flats (d :: xs) = (d.flat && flats xs) := rfl
@[simp] theorem flat_non : D.non.flat = true := rfl
@[simp] theorem flat_bl {b : Bool} : (D.bl b).flat = true := rfl
@[simp] theorem flat_int {b : Int} : (D.int b).flat = true := rfl
@[simp] theorem flat_str {b : Str} : (D.str b).flat = true := rfl
@[simp] theorem flat_tup {xs : List D} : (D.tup xs).flat = flats xs := rfl
@[simp] theorem flat_lst {xs : List D} : (D.lst xs).flat = false := rfl
@[simp] theorem flat_box {k : Nat} : (D.box k).flat = true := rfl
@[simp] theorem freeze_nil : freeze [] vs = vs := rfl
@[simp] theorem freeze_cons {i : Nat} {l : List Nat} : freeze (i :: l) vs = freeze l (vs.set i ((vs.getD i .none).frz)) := rfl
@[simp] theorem frz_val {d : D} : (Slot.val d).frz = .val d := rfl
@[simp] theorem frz_own {d : D} : (Slot.own d).frz = .val d := rfl
@[simp] theorem frz_none : Slot.none.frz = .none := rfl
@[simp] theorem wipe_nil : wipeV [] vs = vs := rfl
@[simp] theorem wipe_cons {i : Nat} {l : List Nat} : wipeV (i :: l) vs = (wipeV l vs).set i .none := rfl
@[simp] theorem ls_sh {d : D} {l : List Nat} : (ER.ls ⟨d, l, .sh, bx⟩) = l := rfl
@[simp] theorem ls_fr {d : D} {l : List Nat} : (ER.ls ⟨d, l, .fr, bx⟩) = l := rfl
@[simp] theorem ls_ow {d : D} {l : List Nat} {i : Nat} : (ER.ls ⟨d, l, .ow i, bx⟩) = i :: l := rfl
@[simp] theorem put_sh {i : Nat} {d : D} {l : List Nat} : putSlot i ⟨d, l, .sh, bx⟩ vs = (freeze l vs).set i (.val d) := rfl
@[simp] theorem put_fr {i : Nat} {d : D} {l : List Nat} : putSlot i ⟨d, l, .fr, bx⟩ vs = (freeze l vs).set i (.own d) := rfl
@[simp] theorem put_ow {i j : Nat} {d : D} {l : List Nat} : putSlot i ⟨d, l, .ow j, bx⟩ vs = (freeze (j :: l) vs).set i (.val d) := rfl
@[simp] theorem o_add : O2.den .add = addD := rfl
@[simp] theorem o_sub : O2.den .sub = subD := rfl
@[simp] theorem o_mul : O2.den .mul = mulD := rfl
@[simp] theorem o_fdiv : O2.den .fdiv = fdivD := rfl
@[simp] theorem o_mod : O2.den .mod = modD := rfl
@[simp] theorem o_pow : O2.den .pow = powD := rfl
@[simp] theorem o_eq : O2.den .eq = eqD := rfl
@[simp] theorem o_ne : O2.den .ne = neD := rfl
@[simp] theorem o_lt : O2.den .lt = ltD := rfl
@[simp] theorem o_le : O2.den .le = leD := rfl
@[simp] theorem o_gt : O2.den .gt = gtD := rfl
@[simp] theorem o_ge : O2.den .ge = geD := rfl
@[simp] theorem o_is : O2.den .is = isD := rfl
@[simp] theorem o_isn : O2.den .isn = isnD := rfl
@[simp] theorem o_inn : O2.den .inn = inD := rfl
@[simp] theorem o_nin : O2.den .nin = ninD := rfl
@[simp] theorem c_len : OC.den .len = lenD := rfl
@[simp] theorem c_abs : OC.den .abs = absD := rfl
@[simp] theorem c_int : OC.den .int = intD := rfl
@[simp] theorem c_gcd : OC.den .gcd = gcdD := rfl
@[simp] theorem c_comb : OC.den .comb = combD := rfl
@[simp] theorem c_list : OC.den .list = listD := rfl
@[simp] theorem c_tuple : OC.den .tuple = tupleD := rfl
@[simp] theorem c_sum : OC.den .sum = sumD := rfl
@[simp] theorem c_max : OC.den .max = maxD := rfl
@[simp] theorem c_min : OC.den .min = minD := rfl
@[simp] theorem c_all : OC.den .all = allD := rfl
@[simp] theorem c_any : OC.den .any = anyD := rfl
@[simp] theorem add_int {i j : Int} : addD (.int i) (.int j) = some (.int (i + j), false) := rfl
@[simp] theorem sub_int' {i j : Int} : subD (.int i) (.int j) = some (.int (i - j), false) := rfl
theorem mul_int' {i j : Int} (h : mulOk i j = true) : mulD (.int i) (.int j) = some (.int (i * j), false) := by
  show (if mulOk i j = true then _ else _) = _
  rw [if_pos h]
@[simp] theorem lt_int' {i j : Int} : ltD (.int i) (.int j) = some (.bl (decide (i < j)), false) := rfl
@[simp] theorem le_int' {i j : Int} : leD (.int i) (.int j) = some (.bl (decide (i ≤ j)), false) := rfl
@[simp] theorem gt_int' {i j : Int} : gtD (.int i) (.int j) = some (.bl (decide (j < i)), false) := rfl
@[simp] theorem ge_int' {i j : Int} : geD (.int i) (.int j) = some (.bl (decide (j ≤ i)), false) := rfl
@[simp] theorem is_non {d : D} : isD d .non = some (.bl d.isNon, false) := rfl
@[simp] theorem neg_int' {i : Int} : negD (.int i) = some (.int (-i), false) := rfl
end Pv

/-! Pv.U: loops by invariants; the helpers that all the laws share. -/
namespace Pv
open L2 PySem PyProof.Rows PySem.Spec

theorem forL_inv {t : Tgt} {body : Vs → Bx → Out} (P : Vs → Bx → Prop) : ∀ (ds : List D) (h : ∀ d ∈ ds, ∀ vs bx, P vs bx → ∃ vs1, t.bind d vs = some vs1 ∧ ∃ vs2 bx2, body vs1 bx = .next vs2 bx2 ∧ P vs2 bx2) (vs : Vs) (bx : Bx), P vs bx → ∃ vs2 bx2, forL t body ds vs bx = .next vs2 bx2 ∧ P vs2 bx2
  | [], _, vs, bx, p => ⟨vs, bx, rfl, p⟩
  | d :: ds, h, vs, bx, p => by
    obtain ⟨vs1, e1, vs2, bx2, e2, p2⟩ := h d (.head _) vs bx p
    obtain ⟨vs3, bx3, e3, p3⟩ := forL_inv P ds (fun d m => h d (.tail _ m)) vs2 bx2 p2
    refine ⟨vs3, bx3, ?_, p3⟩
    unfold forL
    rw [e1]
    simp only
    rw [e2]
    exact e3
theorem forL_fold {α : Type} {t : Tgt} {body : Vs → Bx → Out} (R : α → Vs → Bx → Prop) (step : α → D → α) : ∀ (ds : List D) (h : ∀ d ∈ ds, ∀ a vs bx, R a vs bx → ∃ vs1, t.bind d vs = some vs1 ∧ ∃ vs2 bx2, body vs1 bx = .next vs2 bx2 ∧ R (step a d) vs2 bx2) (a : α) (vs : Vs) (bx : Bx), R a vs bx →
    ∃ vs2 bx2, forL t body ds vs bx = .next vs2 bx2 ∧ R (ds.foldl step a) vs2 bx2
  | [], _, a, vs, bx, p => ⟨vs, bx, rfl, p⟩
  | d :: ds, h, a, vs, bx, p => by
    obtain ⟨vs1, e1, vs2, bx2, e2, p2⟩ := h d (.head _) a vs bx p
    obtain ⟨vs3, bx3, e3, p3⟩ := forL_fold R step ds (fun d m => h d (.tail _ m)) (step a d) vs2 bx2 p2
    refine ⟨vs3, bx3, ?_, p3⟩
    unfold forL
    rw [e1]
    simp only
    rw [e2]
    exact e3
/-- a comprehension whose parts are plain -/
theorem lcL_plain {t : Tgt} {tst : Vs → Bx → Res (Bool × Bx)} {elt : Vs → Bx → Res ER} {vs : Vs} {bx : Bx} (p : D → Bool) (e : D → D) : ∀ (ds : List D) (h : ∀ d ∈ ds, ∃ vs1, t.bind d vs = some vs1 ∧ tst vs1 bx = .ok (p d, bx) ∧ (p d = true → elt vs1 bx = .ok ⟨e d, [], .sh, bx⟩)),
    lcL t tst elt ds vs bx = .ok ⟨(ds.filter p).map e, [], bx⟩
  | [], _ => rfl
  | d :: ds, h => by
    obtain ⟨vs1, e1, e2, e3⟩ := h d (.head _)
    have ih := lcL_plain p e ds fun d m => h d (.tail _ m)
    unfold lcL
    rw [e1]
    simp only
    rw [e2]
    cases hp : p d with
    | false =>
      simp only
      rw [ih, List.filter_cons, hp]
      simp
    | true =>
      simp only
      rw [e3 hp]
      simp only
      rw [ih, List.filter_cons, hp]
      simp
theorem rgD_mem : ∀ (n : Nat) (a : Int) (d : D), d ∈ rgD a n → ∃ i, d = .int i ∧ a ≤ i ∧ i < a + n
  | 0, _, _, h => by cases h
  | n + 1, a, d, h => by
    rcases List.mem_cons.mp h with h | h
    · exact ⟨a, h, by omega, by omega⟩
    · obtain ⟨i, e, h1, h2⟩ := rgD_mem n (a + 1) d h
      exact ⟨i, e, by omega, by omega⟩
@[simp] theorem nrm_bl {b : Bool} {l : List Nat} : nrm (.bl b) false l = [] := by cases l <;> rfl
@[simp] theorem nrm_int {i : Int} {l : List Nat} : nrm (.int i) false l = [] := by cases l <;> rfl
@[simp] theorem nrm_str {i : Str} {l : List Nat} : nrm (.str i) false l = [] := by cases l <;> rfl
@[simp] theorem nrm_non {l : List Nat} : nrm .non false l = [] := by cases l <;> rfl

/-! ### the shared helpers -/
def dRoll : DefI := ⟨"_law_roll", ["cup", "many"], ["cup", "many", "found"],
  (.seq (.ite (.tst (.op .gt (.ix (.var 0) (.con (.int 0))) (.con (.int 0)))) (.seq (.asg 2 (.op .mod (.cb .int (.cons (.ix (.var 0) (.con (.int 0))) .nil)) (.var 1))) (.seq (.store 0 (.con (.int 0)) (.op .fdiv (.ix (.var 0) (.con (.int 0))) (.var 1))) (.ret (.var 2)))) .skip) (.seq (.store 0 (.con (.int 1)) (.op .mod (.cb .int (.cons (.op .add (.op .mul (.ix (.var 0) (.con (.int 1))) (.con (.int 89))) (.con (.int 1523))) .nil)) (.con (.int 99961)))) (.ret (.op .mod (.cb .int (.cons (.op .fdiv (.ix (.var 0) (.con (.int 1))) (.con (.int 13))) .nil)) (.var 1)))))⟩
def dCup : DefI := ⟨"_law_cup", ["script"], ["script", "cell"],
  (.seq (.asg 1 (.cb .abs (.cons (.ix (.op .add (.cb .list (.cons (.var 0) .nil)) (.lst (.cons (.con (.int 0)) .nil))) (.con (.int 0))) .nil))) (.ret (.lst (.cons (.ite (.tst (.op .ge (.var 1) (.op .pow (.con (.int 10)) (.con (.int 18))))) (.op .fdiv (.var 1) (.con (.int 197))) (.con (.int 0))) (.cons (.op .add (.op .mod (.cb .int (.cons (.op .add (.op .mul (.var 1) (.con (.int 457))) (.con (.int 6833))) .nil)) (.con (.int 99961))) (.con (.int 311))) .nil)))))⟩
def dSome (r : Nat) : DefI := ⟨"_law_some", ["cup", "things"], ["cup", "things"], (.ret (.ix (.var 1) (.call r 2 (.cons (.var 0) (.cons (.cb .len (.cons (.var 1) .nil)) .nil)))))⟩
def dSort : DefI := ⟨"_law_sort", ["value"], ["value"],
  (.seq (.ite (.or (.tst (.op .is (.var 0) (.con .non))) (.tru (.isi "bool" (.var 0)))) (.ret (.ite (.tst (.op .is (.var 0) (.con .non))) (.con (.int 0)) (.con (.int 1)))) .skip) (.seq (.ite (.or (.tru (.isi "int" (.var 0))) (.tru (.isi "str" (.var 0)))) (.ret (.ite (.tru (.isi "int" (.var 0))) (.con (.int 2)) (.con (.int 3)))) .skip) (.ret (.ite (.tru (.isi "tuple" (.var 0))) (.con (.int 4)) (.ite (.tru (.isi "list" (.var 0))) (.con (.int 5)) (.con (.int 6)))))))⟩
def dLike (s l : Nat) : DefI := ⟨"_law_like", ["one", "other"], ["one", "other", "sort", "first", "second"],
  (.seq (.asg 2 (.call s 1 (.cons (.var 1) .nil))) (.seq (.ite (.or (.tst (.op .ne (.call s 1 (.cons (.var 0) .nil)) (.var 2))) (.tst (.op .eq (.var 2) (.con (.int 6))))) (.ret (.con (.bl false))) .skip) (.seq (.ite (.tst (.op .inn (.var 2) (.tup (.cons (.con (.int 4)) (.cons (.con (.int 5)) .nil))))) (.ret (.andV (.op .eq (.cb .len (.cons (.var 0) .nil)) (.cb .len (.cons (.var 1) .nil))) (.op .eq (.lc (.zip (.cons (.var 0) (.cons (.var 1) .nil))) (.tp [(.nm 3), (.nm 4)]) (.not (.tru (.call l 2 (.cons (.var 3) (.cons (.var 4) .nil))))) (.con (.int 1)) [3, 4]) (.lst .nil)))) .skip) (.ret (.op .eq (.var 0) (.var 1))))))⟩
theorem areData_mem {n : Nat} : ∀ {xs : List D}, areData n xs = true → ∀ x ∈ xs, x.isData n = true
  | d :: ds, h, x, hx => by
    have h' := Bool.and_eq_true_iff.mp (by simpa [areData] using h : (d.isData n && areData n ds) = true)
    rcases List.mem_cons.mp hx with rfl | hx
    · exact h'.1
    · exact areData_mem h'.2 x hx
theorem zipD_self : ∀ {xs : List D} {d : D}, d ∈ zipD xs xs → ∃ x, x ∈ xs ∧ d = .tup [x, x]
  | x :: xs, d, h => by
    unfold zipD at h
    rw [List.zipWith_cons_cons] at h
    rcases List.mem_cons.mp h with rfl | h
    · exact ⟨x, .head _, rfl⟩
    · obtain ⟨y, hy, e⟩ := zipD_self (xs := xs) h
      exact ⟨y, .tail _ hy, e⟩
section
variable {c : Nat → Fns} {fu : Nat} {i j n : Nat} {bx : Bx}
theorem fdiv_int {i j : Int} (h : 0 < j) (hl : j.natAbs.log2 < 9000) : fdivD (.int i) (.int j) = some (.int (i / j), false) := by
  show (fdivI i j).map _ = _
  unfold fdivI
  rw [if_pos h, if_pos hl]
  rfl
theorem mod_int {i j : Int} (h : 0 < j) : modD (.int i) (.int j) = some (.int (i % j), false) := by
  show (modI i j).map _ = _
  unfold modI
  rw [if_pos h]
  rfl
theorem mul_small {i j : Int} (h : j.natAbs < 18446744073709551616) : mulD (.int i) (.int j) = some (.int (i * j), false) := mul_int' (by unfold mulOk; simp [h])
theorem mul_smallL {i j : Int} (h : i.natAbs < 18446744073709551616) : mulD (.int i) (.int j) = some (.int (i * j), false) := mul_int' (by unfold mulOk; simp [h])
theorem cup_ok (hc : ∀ n xs bx, c (n + 1) i xs bx = runDef fu (c n) dCup xs bx) (ns : List Int) (hl : ns.length ≤ 63) : ∃ x y, c (n + 1) i [.scr ns] bx = .ok ⟨.lst [.int x, .int y], true, bx⟩ := by
  rw [hc]
  obtain ⟨m, q⟩ : ∃ m, atD (ns.map D.int ++ [D.int 0]) 0 = some (.int m) := by
    cases ns with
    | nil => exact ⟨0, rfl⟩
    | cons k r => exact ⟨k, rfl⟩
  have ha : addD (.lst (ns.map D.int)) (.lst [.int 0]) = some (.lst (ns.map D.int ++ [.int 0]), true) := by
    show (if _ then _ else _) = _
    rw [if_pos (by simp [lim]; omega)]
  have hp : powD (.int 10) (.int 18) = some (.int 1000000000000000000, false) := rfl
  have hf : ∀ k : Int, fdivD (.int k) (.int 197) = some (.int (k / 197), false) := fun k => fdiv_int (by omega) (by decide)
  have hm : ∀ k : Int, modD (.int k) (.int 99961) = some (.int (k % 99961), false) := fun k => mod_int (by omega)
  have hu : ∀ k : Int, mulD (.int k) (.int 457) = some (.int (k * 457), false) := fun k => mul_small (by decide)
  by_cases hk : 1000000000000000000 ≤ (if m < 0 then -m else m)
  · refine ⟨(if m < 0 then -m else m) / 197, ((if m < 0 then -m else m) * 457 + 6833) % 99961 + 311, ?_⟩
    simp [dCup, startV, listD, lstD, lim, ha, ixD, q, absD, D.boxN, hp, hf, hm, hu, hk, intD]
  · refine ⟨0, ((if m < 0 then -m else m) * 457 + 6833) % 99961 + 311, ?_⟩
    simp [dCup, startV, listD, lstD, lim, ha, ixD, q, absD, D.boxN, hp, hf, hm, hu, hk, intD]
theorem roll_ok (hc : ∀ n xs bx, c (n + 1) i xs bx = runDef fu (c n) dRoll xs bx) {m : Int} (h : 0 < m) (hb : m.natAbs.log2 < 9000) (x y : Int) : ∃ r x' y', c (n + 1) i [.box 0, .int m] [[x, y]] = .ok ⟨.int r, false, [[x', y']]⟩ ∧ 0 ≤ r ∧ r < m := by
  have hf : ∀ k : Int, fdivD (.int k) (.int m) = some (.int (k / m), false) := fun k => fdiv_int h hb
  have hm : ∀ k : Int, modD (.int k) (.int m) = some (.int (k % m), false) := fun k => mod_int h
  have hm2 : ∀ k : Int, modD (.int k) (.int 99961) = some (.int (k % 99961), false) := fun k => mod_int (by omega)
  have hf2 : ∀ k : Int, fdivD (.int k) (.int 13) = some (.int (k / 13), false) := fun k => fdiv_int (by omega) (by decide)
  have hu : ∀ k : Int, mulD (.int k) (.int 89) = some (.int (k * 89), false) := fun k => mul_small (by decide)
  by_cases hx : 0 < x
  · refine ⟨x % m, x / m, y, ?_, Int.emod_nonneg _ (by omega), Int.emod_lt_of_pos _ h⟩
    rw [hc]
    simp [dRoll, startV, D.boxN, atD, hx, intD, hm, evStore, hf, ixN]
  · refine ⟨(y * 89 + 1523) % 99961 / 13 % m, x, (y * 89 + 1523) % 99961, ?_, Int.emod_nonneg _ (by omega), Int.emod_lt_of_pos _ h⟩
    rw [hc]
    simp [dRoll, startV, D.boxN, atD, hx, intD, hm, evStore, hf, ixN, hm2, hf2, hu]
theorem some_ok {r : Nat} (hr : ∀ n xs bx, c (n + 1) r xs bx = runDef fu (c n) dRoll xs bx) (hc : ∀ n xs bx, c (n + 1) i xs bx = runDef fu (c n) (dSome r) xs bx) {xs : List D} (h : xs ≠ []) (hl : xs.length ≤ lim) (x y : Int) :
    ∃ d x' y', c (n + 2) i [.box 0, .lst xs] [[x, y]] = .ok ⟨d, false, [[x', y']]⟩ ∧ d ∈ xs := by
  have hp : 0 < xs.length := List.length_pos_iff.mpr h
  obtain ⟨q, x', y', e, h0, h1⟩ := roll_ok (n := n) hr (m := (xs.length : Int)) (by omega) (by
    have : ((xs.length : Int)).natAbs = xs.length := rfl
    rw [this]
    have : xs.length.log2 < 25 := (Nat.log2_lt (by omega)).mpr (by unfold lim at hl; omega)
    omega) x y
  have hq : q.toNat < xs.length := by omega
  refine ⟨xs[q.toNat], x', y', ?_, List.getElem_mem hq⟩
  rw [hc]
  have ha : atD xs q = some xs[q.toNat] := by
    unfold atD
    rw [if_pos h0, List.getElem?_eq_getElem hq]
  simp [dSome, startV, lenD, e, D.boxN, ixD, ha]
theorem some_okT {r : Nat} (hr : ∀ n xs bx, c (n + 1) r xs bx = runDef fu (c n) dRoll xs bx) (hc : ∀ n xs bx, c (n + 1) i xs bx = runDef fu (c n) (dSome r) xs bx) {xs : List D} (h : xs ≠ []) (hl : xs.length ≤ lim) (x y : Int) :
    ∃ d x' y', c (n + 2) i [.box 0, .tup xs] [[x, y]] = .ok ⟨d, false, [[x', y']]⟩ ∧ d ∈ xs := by
  have hp : 0 < xs.length := List.length_pos_iff.mpr h
  obtain ⟨q, x', y', e, h0, h1⟩ := roll_ok (n := n) hr (m := (xs.length : Int)) (by omega) (by
    have : ((xs.length : Int)).natAbs = xs.length := rfl
    rw [this]
    have : xs.length.log2 < 25 := (Nat.log2_lt (by omega)).mpr (by unfold lim at hl; omega)
    omega) x y
  have hq : q.toNat < xs.length := by omega
  refine ⟨xs[q.toNat], x', y', ?_, List.getElem_mem hq⟩
  rw [hc]
  have ha : atD xs q = some xs[q.toNat] := by
    unfold atD
    rw [if_pos h0, List.getElem?_eq_getElem hq]
  simp [dSome, startV, lenD, e, D.boxN, ixD, ha]
def sortD : D → Int
  | .non => 0 | .bl _ => 1 | .int _ => 2 | .str _ => 3 | .tup _ => 4 | .lst _ => 5 | _ => 6
theorem sort_ok (hs : ∀ n xs bx, c (n + 1) i xs bx = runDef fu (c n) dSort xs bx) {k : Nat} {d : D} (h : d.isData k = true) : c (n + 1) i [d] bx = .ok ⟨.int (sortD d), false, bx⟩ := by
  rw [hs]
  cases d <;> first | (cases k <;> simp [D.isData] at h; done) | skip
  all_goals simp [dSort, startV, isiD, D.ty, tyIs, D.isNon, sortD]
theorem ne_self {i : Int} : neD (.int i) (.int i) = some (.bl false, false) := by simp [neD, D.isData, deq]
theorem eq_self {i : Int} : eqD (.int i) (.int i) = some (.bl true, false) := by simp [eqD, D.isData, deq]
theorem sort_six {k : Nat} {d : D} (h : d.isData k = true) : eqD (.int (sortD d)) (.int 6) = some (.bl false, false) := by
  cases d <;> first | rfl | (cases k <;> simp [D.isData] at h; done)
def isSeq : D → Bool
  | .tup _ => true
  | .lst _ => true
  | _ => false
theorem sort_seq {d : D} : inD (.int (sortD d)) (.tup [.int 4, .int 5]) = some (.bl (isSeq d), false) := by cases d <;> rfl
theorem eq_nil : eqD (.lst []) (.lst []) = some (.bl true, false) := rfl
theorem like_lc {l : Nat} {m : Nat} {xs : List D} (h : ∀ x ∈ xs, c m l [x, x] bx = .ok ⟨.bl true, false, bx⟩) (vs : Vs) (hv : vs.length = 5) : lcL (.tp [.nm 3, .nm 4]) ((IT.not (.tru (.call l 2 (.cons (.var 3) (.cons (.var 4) .nil))))).den (c m)) ((IE.con (.int 1)).den (c m)) (zipD xs xs) vs bx = .ok ⟨[], [], bx⟩ := by
  have := lcL_plain (t := .tp [.nm 3, .nm 4]) (tst := (IT.not (.tru (.call l 2 (.cons (.var 3) (.cons (.var 4) .nil))))).den (c m)) (elt := (IE.con (.int 1)).den (c m)) (vs := vs) (bx := bx) (fun _ => false) id (zipD xs xs) fun d dm => by
    obtain ⟨x, hm, rfl⟩ := zipD_self dm
    refine ⟨(vs.set 3 (.val x)).set 4 (.val x), rfl, ?_, fun z => by cases z⟩
    have e3 : ((vs.set 3 (.val x)).set 4 (.val x))[3]? = some (.val x) := by rw [List.getElem?_set_ne (by decide), List.getElem?_set_self (by omega)]
    have e4 : ((vs.set 3 (.val x)).set 4 (.val x))[4]? = some (.val x) := by rw [List.getElem?_set_self (by simp; omega)]
    have q := h x hm
    simp [e3, e4, q]
  rw [this]
  simp
theorem like_atom {s l : Nat} (hs : ∀ n xs bx, c (n + 1) s xs bx = runDef fu (c n) dSort xs bx) (hl : ∀ n xs bx, c (n + 1) l xs bx = runDef fu (c n) (dLike s l) xs bx) {k : Nat} {d : D} (hd : d.isData k = true) (ha : isSeq d = false) : c (n + 2) l [d, d] bx = .ok ⟨.bl true, false, bx⟩ := by
  have so : ∀ bx, c (n + 1) s [d] bx = .ok ⟨.int (sortD d), false, bx⟩ := fun bx => sort_ok hs hd
  have ed : eqD d d = some (.bl true, false) := by
    cases d <;> first | (cases ha; done) | (cases k <;> simp [D.isData] at hd; done) | skip
    · rfl
    · simp [eqD, D.isData, deq]
    · simp [eqD, D.isData, deq]
    · have hb : PyData.canLay0 (.str ‹_›) = true := by cases k <;> simpa [D.isData] using hd
      simp [eqD, D.isData, deq, hb]
  rw [hl]
  simp [dLike, startV, so, ne_self, sort_six hd, sort_seq, ha, tupD, lim, ed]
theorem like_tup {s l : Nat} (hs : ∀ n xs bx, c (n + 1) s xs bx = runDef fu (c n) dSort xs bx) (hl : ∀ n xs bx, c (n + 1) l xs bx = runDef fu (c n) (dLike s l) xs bx) {k : Nat} {xs : List D} (hd : (D.tup xs).isData k = true) (h : ∀ x ∈ xs, c (n + 1) l [x, x] bx = .ok ⟨.bl true, false, bx⟩) : c (n + 2) l [.tup xs, .tup xs] bx = .ok ⟨.bl true, false, bx⟩ := by
  have so : ∀ bx, c (n + 1) s [.tup xs] bx = .ok ⟨.int (sortD (.tup xs)), false, bx⟩ := fun bx => sort_ok hs hd
  rw [hl]
  have lc := like_lc (bx := bx) h
  simp [dLike, startV, so, ne_self, sort_six hd, sort_seq, isSeq, tupD, lim, lenD, eq_self, wipeV, lstD, eq_nil]
  simp [lc, eq_nil]
theorem like_lst {s l : Nat} (hs : ∀ n xs bx, c (n + 1) s xs bx = runDef fu (c n) dSort xs bx) (hl : ∀ n xs bx, c (n + 1) l xs bx = runDef fu (c n) (dLike s l) xs bx) {k : Nat} {xs : List D} (hd : (D.lst xs).isData k = true) (h : ∀ x ∈ xs, c (n + 1) l [x, x] bx = .ok ⟨.bl true, false, bx⟩) : c (n + 2) l [.lst xs, .lst xs] bx = .ok ⟨.bl true, false, bx⟩ := by
  have so : ∀ bx, c (n + 1) s [.lst xs] bx = .ok ⟨.int (sortD (.lst xs)), false, bx⟩ := fun bx => sort_ok hs hd
  rw [hl]
  have lc := like_lc (bx := bx) h
  simp [dLike, startV, so, ne_self, sort_six hd, sort_seq, isSeq, tupD, lim, lenD, eq_self, wipeV, lstD, eq_nil]
  simp [lc, eq_nil]
theorem like_refl {s l : Nat} (hs : ∀ n xs bx, c (n + 1) s xs bx = runDef fu (c n) dSort xs bx) (hl : ∀ n xs bx, c (n + 1) l xs bx = runDef fu (c n) (dLike s l) xs bx) (k : Nat) : ∀ (d : D), d.isData k = true → ∀ n bx, c (n + k + 2) l [d, d] bx = .ok ⟨.bl true, false, bx⟩ := by
  induction k with
  | zero =>
    intro d hd n bx
    refine like_atom hs hl hd ?_
    cases d <;> first | rfl | (simp [D.isData] at hd; done)
  | succ k ih =>
    intro d hd n bx
    by_cases ha : isSeq d = true
    · cases d <;> first | (cases ha; done) | skip
      · rename_i xs
        have hx : ∀ x ∈ xs, x.isData k = true := areData_mem (by simpa [D.isData] using hd)
        exact like_tup hs hl hd fun x hm => by
          have := ih x (hx x hm) n bx
          rw [show n + k + 2 = n + (k + 1) + 1 by omega] at this
          exact this
      · rename_i xs
        have hx : ∀ x ∈ xs, x.isData k = true := areData_mem (by simpa [D.isData] using hd)
        exact like_lst hs hl hd fun x hm => by
          have := ih x (hx x hm) n bx
          rw [show n + k + 2 = n + (k + 1) + 1 by omega] at this
          exact this
    · exact like_atom hs hl hd (by simpa using ha)
end
end Pv
namespace Pv
open L2 PySem PyProof.Rows PySem.Spec
theorem rgD_mem_iff : ∀ (n : Nat) (a i : Int), D.int i ∈ rgD a n ↔ a ≤ i ∧ i < a + n
  | 0, a, i => by simp [rgD]
  | n + 1, a, i => by
    unfold rgD
    rw [List.mem_cons, rgD_mem_iff n (a + 1) i]
    simp
    omega
theorem ints_all : ∀ {ds : List D}, (∀ d ∈ ds, ∃ i, d = .int i) → ∃ ns : List Int, ds = ns.map .int
  | [], _ => ⟨[], rfl⟩
  | d :: ds, h => by
    obtain ⟨i, rfl⟩ := h d (.head _)
    obtain ⟨ns, rfl⟩ := ints_all fun d m => h d (.tail _ m)
    exact ⟨i :: ns, rfl⟩
theorem intsOf_map : ∀ (ns : List Int), intsOf (ns.map D.int) = some ns
  | [] => rfl
  | n :: ns => by
    have := intsOf_map ns
    simp [intsOf, this]
theorem min_of {ds : List D} {v : Int} (h : D.int v ∈ ds) (ha : ∀ d ∈ ds, ∃ i, d = .int i ∧ v ≤ i) : minD [.lst ds] = some (.int v, false) := by
  obtain ⟨ns, rfl⟩ := ints_all fun d m => let ⟨i, e, _⟩ := ha d m; ⟨i, e⟩
  have hv : v ∈ ns := by
    obtain ⟨x, hx, e⟩ := List.mem_map.mp h
    cases e; exact hx
  have hle : ∀ i ∈ ns, v ≤ i := fun i hi => by
    obtain ⟨j, e, l⟩ := ha (.int i) (List.mem_map_of_mem hi)
    cases e; exact l
  cases ns with
  | nil => cases hv
  | cons n r =>
    have q := minL_le r n
    unfold minD
    simp only [intsOf_map]
    have : minL n r = v := by
      have h1 : minL n r ≤ v := by
        rcases List.mem_cons.mp hv with rfl | hv
        · exact q.1
        · exact q.2.1 v hv
      have h2 : v ≤ minL n r := by
        rcases q.2.2 with e | e
        · rw [e]; exact hle n (.head _)
        · exact hle _ (.tail _ e)
      omega
    rw [this]
theorem max_of {ds : List D} {v : Int} (h : D.int v ∈ ds) (ha : ∀ d ∈ ds, ∃ i, d = .int i ∧ i ≤ v) : maxD [.lst ds] = some (.int v, false) := by
  obtain ⟨ns, rfl⟩ := ints_all fun d m => let ⟨i, e, _⟩ := ha d m; ⟨i, e⟩
  have hv : v ∈ ns := by
    obtain ⟨x, hx, e⟩ := List.mem_map.mp h
    cases e; exact hx
  have hle : ∀ i ∈ ns, i ≤ v := fun i hi => by
    obtain ⟨j, e, l⟩ := ha (.int i) (List.mem_map_of_mem hi)
    cases e; exact l
  cases ns with
  | nil => cases hv
  | cons n r =>
    have q := maxL_ge r n
    unfold maxD
    simp only [intsOf_map]
    have : maxL n r = v := by
      have h1 : v ≤ maxL n r := by
        rcases List.mem_cons.mp hv with rfl | hv
        · exact q.1
        · exact q.2.1 v hv
      have h2 : maxL n r ≤ v := by
        rcases q.2.2 with e | e
        · rw [e]; exact hle n (.head _)
        · exact hle _ (.tail _ e)
      omega
    rw [this]
end Pv

/-! Pv.X: the same evaluation over value functions that are written out, for the kernel. -/
namespace Pv
open L2 PySem PyProof.Rows PySem.Spec
structure DefV where
  np : Nat
  nN : Nat
  body : SemS
def toV (d : DefI) : DefV := ⟨d.ps.length, d.N.length, d.body.den⟩
def runV (fu : Nat) (c : Fns) (d : DefV) (vs : List D) (bx : Bx) : Res FR := if vs.length = d.np then (d.body c fu (startV d.nN vs) bx).res else .stuck
def fnsV (ds : List DefV) (fu : Nat) : Nat → Fns
  | 0 => fun _ _ _ => .stuck
  | n + 1 => fun i vs bx => match ds[i]? with
    | some d => runV fu (fnsV ds fu n) d vs bx
    | none => .stuck
theorem fnsV_eq (ds : List DefI) (fu : Nat) : ∀ n, fnsAt ds fu n = fnsV (ds.map toV) fu n
  | 0 => rfl
  | n + 1 => by
    funext i vs bx
    show (match ds[i]? with | some d => runDef fu (fnsAt ds fu n) d vs bx | none => .stuck) = (match (ds.map toV)[i]? with | some d => runV fu (fnsV (ds.map toV) fu n) d vs bx | none => .stuck)
    rw [fnsV_eq ds fu n, List.getElem?_map]
    cases ds[i]? <;> rfl
end Pv

namespace K00
open L2 PySem PyProof.Rows PySem.Spec Pv
abbrev tp (i : Nat) : Stmt :=
  PySem.Challenge.pw_walledbodies_k00_whole_portions.main.body.getD i (.Pass ⟨0, 0, 0, 0⟩)
def d0 : DefI := ⟨"is_whole", ["value", "low", "high"], ["value", "low", "high"],
  (.ret (.andV (.isi "int" (.var 0)) (.andV (.notV (.isi "bool" (.var 0))) (.chain .le .le (.var 1) (.var 0) (.var 2)))))⟩
def d1 : DefI := ⟨"need_whole", ["value", "low", "high"], ["value", "low", "high"],
  (.ite (.not (.tru (.call 0 3 (.cons (.var 0) (.cons (.var 1) (.cons (.var 2) .nil)))))) (.raise 0) .skip)⟩
def d2 : DefI := ⟨"is_tuple_of", ["value", "low", "high"], ["value", "low", "high"],
  (.ret (.andV (.isi "tuple" (.var 0)) (.chain .le .le (.var 1) (.cb .len (.cons (.var 0) .nil)) (.var 2))))⟩
def d3 : DefI := ⟨"is_portion", ["value"], ["value"],
  (.seq (.ite (.or (.not (.tru (.call 2 3 (.cons (.var 0) (.cons (.con (.int 2)) (.cons (.con (.int 2)) .nil)))))) (.or (.not (.tru (.call 0 3 (.cons (.ix (.var 0) (.con (.int 0))) (.cons
  (.neg (.con (.int 1000000000000000000000000000000000000000000000000000000000000))) (.cons (.con (.int 1000000000000000000000000000000000000000000000000000000000000)) .nil)))))) (.not
  (.tru (.call 0 3 (.cons (.ix (.var 0) (.con (.int 1))) (.cons (.con (.int 1)) (.cons (.con (.int 1000000000000000000000000000000000000000000000000000000000000)) .nil)))))))) (.ret
  (.con (.bl false))) .skip) (.ret (.op .eq (.cb .gcd (.cons (.ix (.var 0) (.con (.int 0))) (.cons (.ix (.var 0) (.con (.int 1))) .nil))) (.con (.int 1)))))⟩
def d4 : DefI := ⟨"need_portion", ["value"], ["value"],
  (.ite (.not (.tru (.call 3 1 (.cons (.var 0) .nil)))) (.raise 1) .skip)⟩
def d5 : DefI := ⟨"lowest", ["top", "bottom"], ["top", "bottom", "shared"],
  (.seq (.asg 2 (.cb .gcd (.cons (.var 0) (.cons (.var 1) .nil)))) (.seq (.asg 2 (.ite (.tst (.op .gt (.var 1) (.con (.int 0)))) (.var 2) (.neg (.var 2)))) (.ret (.tup (.cons (.op .fdiv
  (.var 0) (.var 2)) (.cons (.op .fdiv (.var 1) (.var 2)) .nil))))))⟩
def d6 : DefI := ⟨"plus", ["one", "other"], ["one", "other"],
  (.ret (.call 5 2 (.cons (.op .add (.op .mul (.ix (.var 0) (.con (.int 0))) (.ix (.var 1) (.con (.int 1)))) (.op .mul (.ix (.var 1) (.con (.int 0))) (.ix (.var 0) (.con (.int 1)))))
  (.cons (.op .mul (.ix (.var 0) (.con (.int 1))) (.ix (.var 1) (.con (.int 1)))) .nil))))⟩
def d7 : DefI := ⟨"times", ["one", "other"], ["one", "other"],
  (.ret (.call 5 2 (.cons (.op .mul (.ix (.var 0) (.con (.int 0))) (.ix (.var 1) (.con (.int 0)))) (.cons (.op .mul (.ix (.var 0) (.con (.int 1))) (.ix (.var 1) (.con (.int 1)))) .nil))))⟩
def d8 : DefI := ⟨"lead", ["one", "other"], ["one", "other"],
  (.ret (.op .sub (.op .mul (.ix (.var 0) (.con (.int 0))) (.ix (.var 1) (.con (.int 1)))) (.op .mul (.ix (.var 1) (.con (.int 0))) (.ix (.var 0) (.con (.int 1))))))⟩
def d9 : DefI := ⟨"portion", ["top", "bottom"], ["top", "bottom"],
  (.seq (.expr (.call 1 3 (.cons (.var 0) (.cons (.neg (.con (.int 1000000000000000000000000000000000000000000000000000000000000))) (.cons (.con (.int 1000000000000000000000000000000000000000000000000000000000000))
  .nil))))) (.seq (.expr (.call 1 3 (.cons (.var 1) (.cons (.neg (.con (.int 1000000000000000000000000000000000000000000000000000000000000))) (.cons (.con (.int 1000000000000000000000000000000000000000000000000000000000000))
  .nil))))) (.seq (.ite (.tst (.op .eq (.var 1) (.con (.int 0)))) (.raise 0) .skip) (.ret (.call 5 2 (.cons (.var 0) (.cons (.var 1) .nil)))))))⟩
def d10 : DefI := ⟨"portion_sum", ["one", "other"], ["one", "other"],
  (.seq (.expr (.call 4 1 (.cons (.var 0) .nil))) (.seq (.expr (.call 4 1 (.cons (.var 1) .nil))) (.ret (.call 6 2 (.cons (.var 0) (.cons (.var 1) .nil))))))⟩
def d11 : DefI := ⟨"portion_product", ["one", "other"], ["one", "other"],
  (.seq (.expr (.call 4 1 (.cons (.var 0) .nil))) (.seq (.expr (.call 4 1 (.cons (.var 1) .nil))) (.ret (.call 7 2 (.cons (.var 0) (.cons (.var 1) .nil))))))⟩
def d12 : DefI := ⟨"portion_by", ["one", "other"], ["one", "other"],
  (.seq (.expr (.call 4 1 (.cons (.var 0) .nil))) (.seq (.expr (.call 4 1 (.cons (.var 1) .nil))) (.seq (.ite (.tst (.op .eq (.ix (.var 1) (.con (.int 0))) (.con (.int 0)))) (.raise 2)
  .skip) (.ret (.call 5 2 (.cons (.op .mul (.ix (.var 0) (.con (.int 0))) (.ix (.var 1) (.con (.int 1)))) (.cons (.op .mul (.ix (.var 0) (.con (.int 1))) (.ix (.var 1) (.con (.int 0))))
  .nil)))))))⟩
def d13 : DefI := ⟨"is_higher", ["one", "other"], ["one", "other"],
  (.seq (.expr (.call 4 1 (.cons (.var 0) .nil))) (.seq (.expr (.call 4 1 (.cons (.var 1) .nil))) (.ret (.op .gt (.call 8 2 (.cons (.var 0) (.cons (.var 1) .nil))) (.con (.int 0))))))⟩
def d14 : DefI := ⟨"_law_cup", ["script"], ["script", "cell"],
  (.seq (.asg 1 (.cb .abs (.cons (.ix (.op .add (.cb .list (.cons (.var 0) .nil)) (.lst (.cons (.con (.int 0)) .nil))) (.con (.int 0))) .nil))) (.ret (.lst (.cons (.ite (.tst (.op .ge
  (.var 1) (.op .pow (.con (.int 10)) (.con (.int 18))))) (.op .fdiv (.var 1) (.con (.int 197))) (.con (.int 0))) (.cons (.op .add (.op .mod (.cb .int (.cons (.op .add (.op .mul (.var
  1) (.con (.int 457))) (.con (.int 6833))) .nil)) (.con (.int 99961))) (.con (.int 311))) .nil)))))⟩
def d15 : DefI := ⟨"_law_roll", ["cup", "many"], ["cup", "many", "found"],
  (.seq (.ite (.tst (.op .gt (.ix (.var 0) (.con (.int 0))) (.con (.int 0)))) (.seq (.asg 2 (.op .mod (.cb .int (.cons (.ix (.var 0) (.con (.int 0))) .nil)) (.var 1))) (.seq (.store 0
  (.con (.int 0)) (.op .fdiv (.ix (.var 0) (.con (.int 0))) (.var 1))) (.ret (.var 2)))) .skip) (.seq (.store 0 (.con (.int 1)) (.op .mod (.cb .int (.cons (.op .add (.op .mul (.ix (.var
  0) (.con (.int 1))) (.con (.int 89))) (.con (.int 1523))) .nil)) (.con (.int 99961)))) (.ret (.op .mod (.cb .int (.cons (.op .fdiv (.ix (.var 0) (.con (.int 1))) (.con (.int 13)))
  .nil)) (.var 1)))))⟩
def d16 : DefI := ⟨"_law_some", ["cup", "things"], ["cup", "things"],
  (.ret (.ix (.var 1) (.call 15 2 (.cons (.var 0) (.cons (.cb .len (.cons (.var 1) .nil)) .nil)))))⟩
def d17 : DefI := ⟨"_law_sort", ["value"], ["value"],
  (.seq (.ite (.or (.tst (.op .is (.var 0) (.con .non))) (.tru (.isi "bool" (.var 0)))) (.ret (.ite (.tst (.op .is (.var 0) (.con .non))) (.con (.int 0)) (.con (.int 1)))) .skip) (.seq
  (.ite (.or (.tru (.isi "int" (.var 0))) (.tru (.isi "str" (.var 0)))) (.ret (.ite (.tru (.isi "int" (.var 0))) (.con (.int 2)) (.con (.int 3)))) .skip) (.ret (.ite (.tru (.isi "tuple"
  (.var 0))) (.con (.int 4)) (.ite (.tru (.isi "list" (.var 0))) (.con (.int 5)) (.con (.int 6)))))))⟩
def d18 : DefI := ⟨"_law_like", ["one", "other"], ["one", "other", "sort", "first", "second"],
  (.seq (.asg 2 (.call 17 1 (.cons (.var 1) .nil))) (.seq (.ite (.or (.tst (.op .ne (.call 17 1 (.cons (.var 0) .nil)) (.var 2))) (.tst (.op .eq (.var 2) (.con (.int 6))))) (.ret (.con
  (.bl false))) .skip) (.seq (.ite (.tst (.op .inn (.var 2) (.tup (.cons (.con (.int 4)) (.cons (.con (.int 5)) .nil))))) (.ret (.andV (.op .eq (.cb .len (.cons (.var 0) .nil)) (.cb
  .len (.cons (.var 1) .nil))) (.op .eq (.lc (.zip (.cons (.var 0) (.cons (.var 1) .nil))) (.tp [(.nm 3), (.nm 4)]) (.not (.tru (.call 18 2 (.cons (.var 3) (.cons (.var 4) .nil)))))
  (.con (.int 1)) [3, 4]) (.lst .nil)))) .skip) (.ret (.op .eq (.var 0) (.var 1))))))⟩
def i19_0B : IS :=
  (.seq (.ite (.tst (.op .eq (.var 1) (.con (.int 0)))) (.ret (.var 0)) .skip) (.par [0, 1] (.cons (.var 1) (.cons (.op .mod (.var 0) (.var 1)) .nil))))
def i19_0S : II :=
  (.rng1 (.con (.int 1200)))
def d19 : DefI := ⟨"_law_divisor", ["one", "other"], ["one", "other", "turn"],
  (.seq (.for_ i19_0S (.nm 2) i19_0B) (.ret (.var 0)))⟩
def d20 : DefI := ⟨"_law_plain", ["top", "bottom"], ["top", "bottom", "shared"],
  (.seq (.asg 2 (.call 19 2 (.cons (.cb .abs (.cons (.var 0) .nil)) (.cons (.cb .abs (.cons (.var 1) .nil)) .nil)))) (.seq (.asg 2 (.ite (.tst (.op .gt (.var 1) (.con (.int 0)))) (.var
  2) (.neg (.var 2)))) (.ret (.tup (.cons (.op .fdiv (.var 0) (.var 2)) (.cons (.op .fdiv (.var 1) (.var 2)) .nil))))))⟩
def i21_1B : IS :=
  (.asg 2 (.op .mod (.cb .int (.cons (.op .add (.op .add (.op .mul (.var 2) (.op .pow (.con (.int 10)) (.con (.int 18)))) (.op .mul (.call 15 2 (.cons (.var 0) (.cons (.op .pow (.con
  (.int 10)) (.con (.int 9))) .nil))) (.op .pow (.con (.int 10)) (.con (.int 9))))) (.call 15 2 (.cons (.var 0) (.cons (.op .pow (.con (.int 10)) (.con (.int 9))) .nil)))) .nil)) (.op
  .add (.var 1) (.con (.int 1)))))
def i21_1S : II :=
  (.rng1 (.con (.int 4)))
def d21 : DefI := ⟨"_law_great", ["cup", "size"], ["cup", "size", "found", "turn"],
  (.seq (.asg 2 (.con (.int 0))) (.seq (.for_ i21_1S (.nm 3) i21_1B) (.ret (.var 2))))⟩
def d22 : DefI := ⟨"_law_portion", ["cup"], ["cup", "size"],
  (.seq (.asg 1 (.call 16 2 (.cons (.var 0) (.cons (.lst (.cons (.con (.int 1)) (.cons (.con (.int 8)) (.cons (.op .pow (.con (.int 10)) (.con (.int 12))) (.cons (.op .pow (.con (.int
  10)) (.con (.int 60))) .nil))))) .nil)))) (.ret (.call 20 2 (.cons (.op .mul (.call 21 2 (.cons (.var 0) (.cons (.var 1) .nil))) (.call 16 2 (.cons (.var 0) (.cons (.lst (.cons (.con
  (.int 1)) (.cons (.neg (.con (.int 1))) .nil))) .nil)))) (.cons (.op .add (.con (.int 1)) (.call 21 2 (.cons (.var 0) (.cons (.op .sub (.var 1) (.con (.int 1))) .nil)))) .nil)))))⟩
def i23_0 : IS :=
  (.par [2, 3] (.cons (.op .mul (.ix (.var 0) (.con (.int 0))) (.ix (.var 1) (.con (.int 1)))) (.cons (.op .mul (.ix (.var 1) (.con (.int 0))) (.ix (.var 0) (.con (.int 1)))) .nil)))
def i23_1 : IS :=
  (.asg 4 (.lst (.cons (.call 10 2 (.cons (.var 0) (.cons (.var 1) .nil))) (.cons (.call 11 2 (.cons (.var 0) (.cons (.var 1) .nil))) (.cons (.call 13 2 (.cons (.var 0) (.cons (.var 1)
  .nil))) (.cons (.call 3 1 (.cons (.var 0) .nil)) .nil))))))
def i23_2 : IS :=
  (.asg 5 (.lst (.cons (.call 20 2 (.cons (.op .add (.var 2) (.var 3)) (.cons (.op .mul (.ix (.var 0) (.con (.int 1))) (.ix (.var 1) (.con (.int 1)))) .nil))) (.cons (.call 20 2 (.cons
  (.op .mul (.ix (.var 0) (.con (.int 0))) (.ix (.var 1) (.con (.int 0)))) (.cons (.op .mul (.ix (.var 0) (.con (.int 1))) (.ix (.var 1) (.con (.int 1)))) .nil))) (.cons (.op .gt (.var
  2) (.var 3)) (.cons (.con (.bl true)) .nil))))))
def i23_3 : IS :=
  (.ite (.not (.tru (.call 18 2 (.cons (.var 4) (.cons (.var 5) .nil))))) (.ret (.con (.bl false))) .skip)
def i23_4 : IS :=
  (.ite (.tst (.op .eq (.ix (.var 1) (.con (.int 0))) (.con (.int 0)))) (.ret (.op .eq (.lam 25 (.call 12 2 (.cons (.var 0) (.cons (.var 1) .nil)))) (.con (.str "no")))) .skip)
def i23_5 : IS :=
  (.ret (.call 18 2 (.cons (.call 12 2 (.cons (.var 0) (.cons (.var 1) .nil))) (.cons (.call 20 2 (.cons (.op .mul (.ix (.var 0) (.con (.int 0))) (.ix (.var 1) (.con (.int 1)))) (.cons
  (.op .mul (.ix (.var 0) (.con (.int 1))) (.ix (.var 1) (.con (.int 0)))) .nil))) .nil))))
def d23 : DefI := ⟨"_law_pair_right", ["one", "other"], ["one", "other", "first", "second", "told", "due"],
  (.seq i23_0 (.seq i23_1 (.seq i23_2 (.seq i23_3 (.seq i23_4 i23_5)))))⟩
def i24_0 : IS :=
  (.boxAsg 1 (.call 14 1 (.cons (.var 0) .nil)))
def i24_1 : IS :=
  (.asg 2 (.call 22 1 (.cons (.var 1) .nil)))
def i24_2B : IS :=
  (.seq (.asg 4 (.call 22 1 (.cons (.var 1) .nil))) (.seq (.ite (.or (.not (.tru (.call 23 2 (.cons (.var 4) (.cons (.var 2) .nil))))) (.or (.not (.tru (.call 23 2 (.cons (.var 2) (.cons
  (.var 4) .nil))))) (.not (.tru (.call 23 2 (.cons (.var 4) (.cons (.var 4) .nil))))))) (.ret (.con (.bl false))) .skip) (.asg 2 (.var 4))))
def i24_2S : II :=
  (.rng1 (.con (.int 10)))
def i24_2 : IS :=
  (.for_ i24_2S (.nm 3) i24_2B)
def i24_3 : IS :=
  (.asg 5 (.op .pow (.con (.int 10)) (.con (.int 60))))
def i24_4 : IS :=
  (.asg 6 (.lst (.cons (.call 9 2 (.cons (.con (.int 6)) (.cons (.neg (.con (.int 4))) .nil))) (.cons (.call 9 2 (.cons (.con (.int 0)) (.cons (.neg (.var 5)) .nil))) (.cons (.call 9
  2 (.cons (.var 5) (.cons (.var 5) .nil))) (.cons (.call 10 2 (.cons (.tup (.cons (.con (.int 1)) (.cons (.con (.int 2)) .nil))) (.cons (.tup (.cons (.con (.int 1)) (.cons (.con (.int
  3)) .nil))) .nil))) (.cons (.call 12 2 (.cons (.tup (.cons (.con (.int 1)) (.cons (.con (.int 2)) .nil))) (.cons (.tup (.cons (.neg (.con (.int 3))) (.cons (.con (.int 1)) .nil)))
  .nil))) .nil)))))))
def i24_5 : IS :=
  (.asg 6 (.op .add (.var 6) (.lst (.cons (.call 11 2 (.cons (.tup (.cons (.var 5) (.cons (.con (.int 1)) .nil))) (.cons (.tup (.cons (.var 5) (.cons (.con (.int 1)) .nil))) .nil))) (.cons
  (.call 11 2 (.cons (.tup (.cons (.con (.int 2)) (.cons (.con (.int 3)) .nil))) (.cons (.tup (.cons (.neg (.con (.int 3))) (.cons (.con (.int 4)) .nil))) .nil))) (.cons (.call 13 2
  (.cons (.tup (.cons (.con (.int 2)) (.cons (.con (.int 3)) .nil))) (.cons (.tup (.cons (.con (.int 3)) (.cons (.con (.int 4)) .nil))) .nil))) (.cons (.call 13 2 (.cons (.tup (.cons
  (.neg (.con (.int 1))) (.cons (.con (.int 2)) .nil))) (.cons (.tup (.cons (.neg (.con (.int 2))) (.cons (.con (.int 3)) .nil))) .nil))) .nil)))))))
def i24_6 : IS :=
  (.ite (.not (.tru (.call 18 2 (.cons (.var 6) (.cons (.lst (.cons (.tup (.cons (.neg (.con (.int 3))) (.cons (.con (.int 2)) .nil))) (.cons (.tup (.cons (.con (.int 0)) (.cons (.con
  (.int 1)) .nil))) (.cons (.tup (.cons (.con (.int 1)) (.cons (.con (.int 1)) .nil))) (.cons (.tup (.cons (.con (.int 5)) (.cons (.con (.int 6)) .nil))) (.cons (.tup (.cons (.neg (.con
  (.int 1))) (.cons (.con (.int 6)) .nil))) (.cons (.tup (.cons (.op .mul (.var 5) (.var 5)) (.cons (.con (.int 1)) .nil))) (.cons (.tup (.cons (.neg (.con (.int 1))) (.cons (.con (.int
  2)) .nil))) (.cons (.con (.bl false)) (.cons (.con (.bl true)) .nil)))))))))) .nil))))) (.ret (.con (.bl false))) .skip)
def i24_7 : IS :=
  (.asg 7 (.lst (.cons (.tup (.cons (.con (.int 1)) (.cons (.con (.int 2)) .nil))) (.cons (.tup (.cons (.con (.int 0)) (.cons (.con (.int 1)) .nil))) (.cons (.tup (.cons (.var 5) (.cons
  (.con (.int 1)) .nil))) (.cons (.tup (.cons (.con (.int 1)) (.cons (.var 5) .nil))) (.cons (.tup (.cons (.op .add (.var 5) (.con (.int 1))) (.cons (.con (.int 1)) .nil))) (.cons (.tup
  (.cons (.op .sub (.neg (.var 5)) (.con (.int 1))) (.cons (.con (.int 1)) .nil))) (.cons (.tup (.cons (.con (.int 1)) (.cons (.op .add (.var 5) (.con (.int 1))) .nil))) (.cons (.tup
  (.cons (.con (.int 2)) (.cons (.con (.int 4)) .nil))) (.cons (.tup (.cons (.con (.int 0)) (.cons (.con (.int 2)) .nil))) (.cons (.tup (.cons (.con (.int 1)) (.cons (.con (.int 0))
  .nil))) (.cons (.tup (.cons (.con (.int 1)) (.cons (.neg (.con (.int 2))) .nil))) (.cons (.lst (.cons (.con (.int 1)) (.cons (.con (.int 2)) .nil))) .nil))))))))))))))
def i24_8 : IS :=
  (.asg 7 (.op .add (.var 7) (.lst (.cons (.tup (.cons (.con (.int 1)) .nil)) (.cons (.tup (.cons (.con (.int 1)) (.cons (.con (.int 2)) (.cons (.con (.int 3)) .nil)))) (.cons (.tup (.cons
  (.con (.bl true)) (.cons (.con (.int 2)) .nil))) (.cons (.tup (.cons (.con (.int 1)) (.cons (.con (.bl true)) .nil))) (.cons (.con .non) (.cons (.con (.int 1)) (.cons (.con (.str
  "1/2")) (.cons (.tup (.cons (.tup (.cons (.con (.int 1)) .nil)) (.cons (.con (.int 2)) .nil))) .nil)))))))))))
def i24_9 : IS :=
  (.ite (.not (.tru (.call 18 2 (.cons (.lc (.it (.var 7)) (.nm 12) .yes (.call 3 1 (.cons (.var 12) .nil)) [12]) (.cons (.op .add (.op .mul (.lst (.cons (.con (.bl true)) .nil)) (.con
  (.int 4))) (.op .mul (.lst (.cons (.con (.bl false)) .nil)) (.con (.int 16)))) .nil))))) (.ret (.con (.bl false))) .skip)
def i24_10 : IS :=
  (.asgG (.tp [(.nm 8), (.nm 9)]) (.tup (.cons (.call 16 2 (.cons (.var 1) (.cons (.sl (.var 7) (.some (.con (.int 4))) .none) .nil))) (.cons (.lst .nil) .nil))))
def i24_11B : IS :=
  (.seq (.asg 9 (.op .add (.var 9) (.lst (.cons (.lam 25 (.callV 10 2 (.cons (.var 8) (.cons (.var 8) .nil)))) .nil)))) (.asg 9 (.op .add (.var 9) (.lst (.cons (.lam 25 (.callV 10 2 (.cons
  (.tup (.cons (.con (.int 0)) (.cons (.con (.int 1)) .nil))) (.cons (.var 8) .nil)))) .nil)))))
def i24_11S : II :=
  (.it (.tup (.cons (.con (.fn 10)) (.cons (.con (.fn 11)) (.cons (.con (.fn 12)) (.cons (.con (.fn 13)) .nil))))))
def i24_11 : IS :=
  (.for_ i24_11S (.nm 10) i24_11B)
def i24_12B : IS :=
  (.asg 9 (.op .add (.var 9) (.lst (.cons (.lam 25 (.call 9 2 (.cons (.ix (.var 11) (.con (.int 0))) (.cons (.ix (.var 11) (.con (.int 1))) .nil)))) .nil))))
def i24_12S : II :=
  (.it (.tup (.cons (.tup (.cons (.op .add (.var 5) (.con (.int 1))) (.cons (.con (.int 1)) .nil))) (.cons (.tup (.cons (.con (.int 1)) (.cons (.op .add (.var 5) (.con (.int 1))) .nil)))
  (.cons (.tup (.cons (.con (.int 1)) (.cons (.con (.int 0)) .nil))) (.cons (.tup (.cons (.con (.bl true)) (.cons (.con (.int 1)) .nil))) (.cons (.tup (.cons (.con (.int 1)) (.cons
  (.con .non) .nil))) (.cons (.tup (.cons (.con .non) (.cons (.con (.int 0)) .nil))) .nil))))))))
def i24_12 : IS :=
  (.for_ i24_12S (.nm 11) i24_12B)
def i24_13 : IS :=
  (.ret (.op .eq (.var 9) (.op .add (.op .mul (.lst (.cons (.con (.str "portion")) .nil)) (.con (.int 8))) (.op .mul (.lst (.cons (.con (.str "number")) .nil)) (.con (.int 6))))))
def d24 : DefI := ⟨"law", ["script"], ["script", "cup", "last", "turn", "one", "great", "told", "odds", "bad", "words", "name", "pair", "odd"],
  (.seq i24_0 (.seq i24_1 (.seq i24_2 (.seq i24_3 (.seq i24_4 (.seq i24_5 (.seq i24_6 (.seq i24_7 (.seq i24_8 (.seq i24_9 (.seq i24_10 (.seq i24_11 (.seq i24_12 i24_13)))))))))))))⟩
def d25 : DefI := ⟨"_law_error", ["call"], ["call", "pairs", "word", "is_so", "e"],
  (.tryAs 4 [0, 1, 2] (.seq (.asg 1 (.lst (.cons (.tup (.cons (.con (.str "portion")) (.cons (.isE [1] (.var 4)) .nil))) (.cons (.tup (.cons (.con (.str "number")) (.cons (.isE [0] (.var
  4)) .nil))) .nil)))) (.ret (.join (.con (.str "")) (.lc (.itH (.op .add (.var 1) (.lst (.cons (.tup (.cons (.con (.str "no")) (.cons (.isE [2] (.var 4)) .nil))) .nil)))) (.tp [(.nm
  2), (.nm 3)]) (.tru (.var 3)) (.var 2) [2, 3])))) (.ret (.con (.str "none"))))⟩
def ds : List DefI := [d0, d1, d2, d3, d4, d5, d6, d7, d8, d9, d10, d11, d12, d13, d14, d15, d16, d17, d18, d19, d20, d21, d22, d23, d24, d25]
def rows : List (DefI × Stmt) := [(d0, tp 7), (d1, tp 8), (d2, tp 9), (d3, tp 12), (d4, tp 13), (d5, tp 14), (d6, tp 15), (d7, tp 16), (d8, tp 17), (d9, tp 18), (d10, tp 19), (d11, tp 20), (d12, tp 21), (d13, tp 22), (d14, tp 24), (d15, tp 25), (d16, tp 26), (d17, tp 27), (d18, tp 28), (d19, tp 29), (d20, tp 30), (d21, tp 31), (d22, tp 32), (d23, tp 34), (d24, tp 35)]
def rowsH : List (DefI × Stmt) := [(d25, tp 33)]
def PI : PIn := { consts := [("GREAT", (.int 1000000000000000000000000000000000000000000000000000000000000))], defs := ([("is_whole", 3), ("need_whole", 3), ("is_tuple_of", 3), ("is_portion", 1), ("need_portion", 1), ("lowest", 2), ("plus", 2), ("times", 2), ("lead", 2), ("portion", 2), ("portion_sum", 2), ("portion_product", 2), ("portion_by", 2), ("is_higher", 2), ("_law_cup", 1), ("_law_roll", 2), ("_law_some", 2), ("_law_sort", 1), ("_law_like", 2), ("_law_divisor", 2)] : List (Str × Nat)) ++ ([("_law_plain", 2), ("_law_great", 2), ("_law_portion", 1), ("_law_pair_right", 2), ("law", 1)] : List (Str × Nat)), bfs := [("gcd", "math.gcd")], free := ["len", "abs", "int", "list", "tuple", "isinstance", "range", "zip", "bool", "str"], cls := ["InvalidNumber", "InvalidPortion", "NotFound"], boxers := ["_law_cup"], dt := [], als := [], vc := true, hands := [("_law_error", 25)], subs := [("BodyError", [0, 1, 2]), ("InvalidPortion", [1]), ("InvalidNumber", [0]), ("NotFound", [2])] }
def mk : List Nat := [23, 24]
theorem c0 : DefC PI mk 0 d0 (tp 7) := ⟨⟨rfl, rfl, rfl, by decide +kernel, rfl, by decide +kernel, by decide +kernel⟩,
  fun _ _ _ _ _ _ us hl => match us, hl with | [_, _, _], _ => rfl, by kernel_rfl⟩
theorem c1 : DefC PI mk 1 d1 (tp 8) := ⟨⟨rfl, rfl, rfl, by decide +kernel, rfl, by decide +kernel, by decide +kernel⟩,
  fun _ _ _ _ _ _ us hl => match us, hl with | [_, _, _], _ => rfl, by kernel_rfl⟩
theorem c2 : DefC PI mk 2 d2 (tp 9) := ⟨⟨rfl, rfl, rfl, by decide +kernel, rfl, by decide +kernel, by decide +kernel⟩,
  fun _ _ _ _ _ _ us hl => match us, hl with | [_, _, _], _ => rfl, by kernel_rfl⟩
theorem c3 : DefC PI mk 3 d3 (tp 12) := ⟨⟨rfl, rfl, rfl, by decide +kernel, rfl, by decide +kernel, by decide +kernel⟩,
  fun _ _ _ _ _ _ us hl => match us, hl with | [_], _ => rfl, by kernel_rfl⟩
theorem c4 : DefC PI mk 4 d4 (tp 13) := ⟨⟨rfl, rfl, rfl, by decide +kernel, rfl, by decide +kernel, by decide +kernel⟩,
  fun _ _ _ _ _ _ us hl => match us, hl with | [_], _ => rfl, by kernel_rfl⟩
theorem c5 : DefC PI mk 5 d5 (tp 14) := ⟨⟨rfl, rfl, rfl, by decide +kernel, rfl, by decide +kernel, by decide +kernel⟩,
  fun _ _ _ _ _ _ us hl => match us, hl with | [_, _], _ => rfl, by kernel_rfl⟩
theorem c6 : DefC PI mk 6 d6 (tp 15) := ⟨⟨rfl, rfl, rfl, by decide +kernel, rfl, by decide +kernel, by decide +kernel⟩,
  fun _ _ _ _ _ _ us hl => match us, hl with | [_, _], _ => rfl, by kernel_rfl⟩
theorem c7 : DefC PI mk 7 d7 (tp 16) := ⟨⟨rfl, rfl, rfl, by decide +kernel, rfl, by decide +kernel, by decide +kernel⟩,
  fun _ _ _ _ _ _ us hl => match us, hl with | [_, _], _ => rfl, by kernel_rfl⟩
theorem c8 : DefC PI mk 8 d8 (tp 17) := ⟨⟨rfl, rfl, rfl, by decide +kernel, rfl, by decide +kernel, by decide +kernel⟩,
  fun _ _ _ _ _ _ us hl => match us, hl with | [_, _], _ => rfl, by kernel_rfl⟩
theorem c9 : DefC PI mk 9 d9 (tp 18) := ⟨⟨rfl, rfl, rfl, by decide +kernel, rfl, by decide +kernel, by decide +kernel⟩,
  fun _ _ _ _ _ _ us hl => match us, hl with | [_, _], _ => rfl, by kernel_rfl⟩
theorem c10 : DefC PI mk 10 d10 (tp 19) := ⟨⟨rfl, rfl, rfl, by decide +kernel, rfl, by decide +kernel, by decide +kernel⟩,
  fun _ _ _ _ _ _ us hl => match us, hl with | [_, _], _ => rfl, by kernel_rfl⟩
theorem c11 : DefC PI mk 11 d11 (tp 20) := ⟨⟨rfl, rfl, rfl, by decide +kernel, rfl, by decide +kernel, by decide +kernel⟩,
  fun _ _ _ _ _ _ us hl => match us, hl with | [_, _], _ => rfl, by kernel_rfl⟩
theorem c12 : DefC PI mk 12 d12 (tp 21) := ⟨⟨rfl, rfl, rfl, by decide +kernel, rfl, by decide +kernel, by decide +kernel⟩,
  fun _ _ _ _ _ _ us hl => match us, hl with | [_, _], _ => rfl, by kernel_rfl⟩
theorem c13 : DefC PI mk 13 d13 (tp 22) := ⟨⟨rfl, rfl, rfl, by decide +kernel, rfl, by decide +kernel, by decide +kernel⟩,
  fun _ _ _ _ _ _ us hl => match us, hl with | [_, _], _ => rfl, by kernel_rfl⟩
theorem c14 : DefC PI mk 14 d14 (tp 24) := ⟨⟨rfl, rfl, rfl, by decide +kernel, rfl, by decide +kernel, by decide +kernel⟩,
  fun _ _ _ _ _ _ us hl => match us, hl with | [_], _ => rfl, by kernel_rfl⟩
theorem c15 : DefC PI mk 15 d15 (tp 25) := ⟨⟨rfl, rfl, rfl, by decide +kernel, rfl, by decide +kernel, by decide +kernel⟩,
  fun _ _ _ _ _ _ us hl => match us, hl with | [_, _], _ => rfl, by kernel_rfl⟩
theorem c16 : DefC PI mk 16 d16 (tp 26) := ⟨⟨rfl, rfl, rfl, by decide +kernel, rfl, by decide +kernel, by decide +kernel⟩,
  fun _ _ _ _ _ _ us hl => match us, hl with | [_, _], _ => rfl, by kernel_rfl⟩
theorem c17 : DefC PI mk 17 d17 (tp 27) := ⟨⟨rfl, rfl, rfl, by decide +kernel, rfl, by decide +kernel, by decide +kernel⟩,
  fun _ _ _ _ _ _ us hl => match us, hl with | [_], _ => rfl, by kernel_rfl⟩
theorem c18 : DefC PI mk 18 d18 (tp 28) := ⟨⟨rfl, rfl, rfl, by decide +kernel, rfl, by decide +kernel, by decide +kernel⟩,
  fun _ _ _ _ _ _ us hl => match us, hl with | [_, _], _ => rfl, by kernel_rfl⟩
theorem c19 : DefC PI mk 19 d19 (tp 29) := ⟨⟨rfl, rfl, rfl, by decide +kernel, rfl, by decide +kernel, by decide +kernel⟩,
  fun _ _ _ _ _ _ us hl => match us, hl with | [_, _], _ => rfl, by kernel_rfl⟩
theorem c20 : DefC PI mk 20 d20 (tp 30) := ⟨⟨rfl, rfl, rfl, by decide +kernel, rfl, by decide +kernel, by decide +kernel⟩,
  fun _ _ _ _ _ _ us hl => match us, hl with | [_, _], _ => rfl, by kernel_rfl⟩
theorem c21 : DefC PI mk 21 d21 (tp 31) := ⟨⟨rfl, rfl, rfl, by decide +kernel, rfl, by decide +kernel, by decide +kernel⟩,
  fun _ _ _ _ _ _ us hl => match us, hl with | [_, _], _ => rfl, by kernel_rfl⟩
theorem c22 : DefC PI mk 22 d22 (tp 32) := ⟨⟨rfl, rfl, rfl, by decide +kernel, rfl, by decide +kernel, by decide +kernel⟩,
  fun _ _ _ _ _ _ us hl => match us, hl with | [_], _ => rfl, by kernel_rfl⟩
theorem c23 : DefC PI mk 23 d23 (tp 34) := ⟨⟨rfl, rfl, rfl, by decide +kernel, rfl, by decide +kernel, by decide +kernel⟩,
  fun _ _ _ _ _ _ us hl => match us, hl with | [_, _], _ => rfl, by kernel_rfl⟩
theorem c24 : DefC PI mk 24 d24 (tp 35) := ⟨⟨rfl, rfl, rfl, by decide +kernel, rfl, by decide +kernel, by decide +kernel⟩,
  fun _ _ _ _ _ _ us hl => match us, hl with | [_], _ => rfl, by kernel_rfl⟩
theorem h0 : HandC PI d25 (tp 33) "call" := ⟨rfl, ⟨rfl, rfl, rfl, by decide +kernel, rfl, by decide +kernel, by decide +kernel⟩,
  fun _ _ _ _ _ _ us hl => match us, hl with | [_], _ => rfl, by decide +kernel, by kernel_rfl⟩
theorem call : AllC PI mk 0 rows := (.cons c0 (.cons c1 (.cons c2 (.cons c3 (.cons c4 (.cons c5 (.cons c6 (.cons c7 (.cons c8 (.cons c9 (.cons c10 (.cons c11 (.cons c12 (.cons c13 (.cons c14 (.cons c15 (.cons c16 (.cons c17 (.cons c18 (.cons c19 (.cons c20 (.cons c21 (.cons c22 (.cons c23 (.cons c24 .nil)))))))))))))))))))))))))
theorem hall : AllH PI rowsH := (.cons h0 .nil)
def loose : List Str := (["gcd", "BodyError", "InvalidNumber", "InvalidPortion", "NotFound", "is_whole", "need_whole", "is_tuple_of", "GREAT", "is_portion", "need_portion", "lowest", "plus", "times", "lead", "portion", "portion_sum", "portion_product", "portion_by", "is_higher", "_law_cup", "_law_roll", "_law_some", "_law_sort", "_law_like", "_law_divisor", "_law_plain", "_law_great", "_law_portion", "_law_error", "_law_pair_right"] : List Str)
abbrev R : PySem.W.OpenRow := PySem.W.OpenLaw.row PySem.Challenge.rw_walledbodies_k00_whole_portions
abbrev hk : PySem.W.Hook := He.hookX 4 [] ((rows ++ rowsH).map defD) [] (tfOf PI mk) (exOf PI mk)
def ob (s : PySem.W.SharedT) : He.AlX := He.obsX 4 [] ((rows ++ rowsH).map defD) [] (tfOf PI mk) (exOf PI mk) (HandSHeadRun.getT s)
theorem ob_eq (s : PySem.W.SharedT) : ob s = hk.obs s.abs := He.obsX_eq (HandSHeadRun.getT_eq s)
theorem run (w : World) : HandSHeadRun.RunEqI R (PySem.W.view R.prog [0, 35]) hk ob 6000 loose w := by
  unfold HandSHeadRun.RunEqI
  kernel_rfl
def b0 : SemS :=
(evRet (evAndV (evCB (isiD "int") (evConsC (evVar 0) evNil)) (evAndV (evNotV (evCB (isiD "bool") (evConsC (evVar 0) evNil))) (evChain leD leD (evVar 1) (evVar 0) (evVar 2)))))
def b1 : SemS :=
(evIfS (evNotT (evTru (evCall 0 3 (evConsS (evVar 0) (evConsS (evVar 1) (evConsS (evVar 2) evNil)))))) (evRaise 0) evSkip)
def b2 : SemS :=
(evRet (evAndV (evCB (isiD "tuple") (evConsC (evVar 0) evNil)) (evChain leD leD (evVar 1) (evCB lenD (evConsC (evVar 0) evNil)) (evVar 2))))
def b3 : SemS :=
(evSeq (evIfS (evOrT (evNotT (evTru (evCall 2 3 (evConsS (evVar 0) (evConsS (evC (.int 2)) (evConsS (evC (.int 2)) evNil)))))) (evOrT (evNotT (evTru (evCall 0 3 (evConsS (evIx (evVar
  0) (evC (.int 0))) (evConsS (evUn negD (evC (.int 1000000000000000000000000000000000000000000000000000000000000))) (evConsS (evC (.int 1000000000000000000000000000000000000000000000000000000000000))
  evNil)))))) (evNotT (evTru (evCall 0 3 (evConsS (evIx (evVar 0) (evC (.int 1))) (evConsS (evC (.int 1)) (evConsS (evC (.int 1000000000000000000000000000000000000000000000000000000000000))
  evNil)))))))) (evRet (evC (.bl false))) evSkip) (evRet (evOp eqD (evCB gcdD (evConsC (evIx (evVar 0) (evC (.int 0))) (evConsC (evIx (evVar 0) (evC (.int 1))) evNil))) (evC (.int 1)))))
def b4 : SemS :=
(evIfS (evNotT (evTru (evCall 3 1 (evConsS (evVar 0) evNil)))) (evRaise 1) evSkip)
def b5 : SemS :=
(evSeq (evAsg 2 (evCB gcdD (evConsC (evVar 0) (evConsC (evVar 1) evNil)))) (evSeq (evAsg 2 (evIf (evTst (evOp gtD (evVar 1) (evC (.int 0)))) (evVar 2) (evUn negD (evVar 2)))) (evRet
  (evDisp tupD (evConsS (evOp fdivD (evVar 0) (evVar 2)) (evConsS (evOp fdivD (evVar 1) (evVar 2)) evNil))))))
def b6 : SemS :=
(evRet (evCall 5 2 (evConsS (evOp addD (evOp mulD (evIx (evVar 0) (evC (.int 0))) (evIx (evVar 1) (evC (.int 1)))) (evOp mulD (evIx (evVar 1) (evC (.int 0))) (evIx (evVar 0) (evC (.int
  1))))) (evConsS (evOp mulD (evIx (evVar 0) (evC (.int 1))) (evIx (evVar 1) (evC (.int 1)))) evNil))))
def b7 : SemS :=
(evRet (evCall 5 2 (evConsS (evOp mulD (evIx (evVar 0) (evC (.int 0))) (evIx (evVar 1) (evC (.int 0)))) (evConsS (evOp mulD (evIx (evVar 0) (evC (.int 1))) (evIx (evVar 1) (evC (.int
  1)))) evNil))))
def b8 : SemS :=
(evRet (evOp subD (evOp mulD (evIx (evVar 0) (evC (.int 0))) (evIx (evVar 1) (evC (.int 1)))) (evOp mulD (evIx (evVar 1) (evC (.int 0))) (evIx (evVar 0) (evC (.int 1))))))
def b9 : SemS :=
(evSeq (evExpr (evCall 1 3 (evConsS (evVar 0) (evConsS (evUn negD (evC (.int 1000000000000000000000000000000000000000000000000000000000000))) (evConsS (evC (.int 1000000000000000000000000000000000000000000000000000000000000))
  evNil))))) (evSeq (evExpr (evCall 1 3 (evConsS (evVar 1) (evConsS (evUn negD (evC (.int 1000000000000000000000000000000000000000000000000000000000000))) (evConsS (evC (.int 1000000000000000000000000000000000000000000000000000000000000))
  evNil))))) (evSeq (evIfS (evTst (evOp eqD (evVar 1) (evC (.int 0)))) (evRaise 0) evSkip) (evRet (evCall 5 2 (evConsS (evVar 0) (evConsS (evVar 1) evNil)))))))
def b10 : SemS :=
(evSeq (evExpr (evCall 4 1 (evConsS (evVar 0) evNil))) (evSeq (evExpr (evCall 4 1 (evConsS (evVar 1) evNil))) (evRet (evCall 6 2 (evConsS (evVar 0) (evConsS (evVar 1) evNil))))))
def b11 : SemS :=
(evSeq (evExpr (evCall 4 1 (evConsS (evVar 0) evNil))) (evSeq (evExpr (evCall 4 1 (evConsS (evVar 1) evNil))) (evRet (evCall 7 2 (evConsS (evVar 0) (evConsS (evVar 1) evNil))))))
def b12 : SemS :=
(evSeq (evExpr (evCall 4 1 (evConsS (evVar 0) evNil))) (evSeq (evExpr (evCall 4 1 (evConsS (evVar 1) evNil))) (evSeq (evIfS (evTst (evOp eqD (evIx (evVar 1) (evC (.int 0))) (evC (.int
  0)))) (evRaise 2) evSkip) (evRet (evCall 5 2 (evConsS (evOp mulD (evIx (evVar 0) (evC (.int 0))) (evIx (evVar 1) (evC (.int 1)))) (evConsS (evOp mulD (evIx (evVar 0) (evC (.int 1)))
  (evIx (evVar 1) (evC (.int 0)))) evNil)))))))
def b13 : SemS :=
(evSeq (evExpr (evCall 4 1 (evConsS (evVar 0) evNil))) (evSeq (evExpr (evCall 4 1 (evConsS (evVar 1) evNil))) (evRet (evOp gtD (evCall 8 2 (evConsS (evVar 0) (evConsS (evVar 1) evNil)))
  (evC (.int 0))))))
def b14 : SemS :=
(evSeq (evAsg 1 (evCB absD (evConsC (evIx (evOp addD (evCB listD (evConsC (evVar 0) evNil)) (evDisp lstD (evConsS (evC (.int 0)) evNil))) (evC (.int 0))) evNil))) (evRet (evDisp lstD
  (evConsS (evIf (evTst (evOp geD (evVar 1) (evOp powD (evC (.int 10)) (evC (.int 18))))) (evOp fdivD (evVar 1) (evC (.int 197))) (evC (.int 0))) (evConsS (evOp addD (evOp modD (evCB
  intD (evConsC (evOp addD (evOp mulD (evVar 1) (evC (.int 457))) (evC (.int 6833))) evNil)) (evC (.int 99961))) (evC (.int 311))) evNil)))))
def b15 : SemS :=
(evSeq (evIfS (evTst (evOp gtD (evIx (evVar 0) (evC (.int 0))) (evC (.int 0)))) (evSeq (evAsg 2 (evOp modD (evCB intD (evConsC (evIx (evVar 0) (evC (.int 0))) evNil)) (evVar 1))) (evSeq
  (evStore 0 (evC (.int 0)) (evOp fdivD (evIx (evVar 0) (evC (.int 0))) (evVar 1))) (evRet (evVar 2)))) evSkip) (evSeq (evStore 0 (evC (.int 1)) (evOp modD (evCB intD (evConsC (evOp
  addD (evOp mulD (evIx (evVar 0) (evC (.int 1))) (evC (.int 89))) (evC (.int 1523))) evNil)) (evC (.int 99961)))) (evRet (evOp modD (evCB intD (evConsC (evOp fdivD (evIx (evVar 0)
  (evC (.int 1))) (evC (.int 13))) evNil)) (evVar 1)))))
def b16 : SemS :=
(evRet (evIx (evVar 1) (evCall 15 2 (evConsS (evVar 0) (evConsS (evCB lenD (evConsC (evVar 1) evNil)) evNil)))))
def b17 : SemS :=
(evSeq (evIfS (evOrT (evTst (evOp isD (evVar 0) (evC .non))) (evTru (evCB (isiD "bool") (evConsC (evVar 0) evNil)))) (evRet (evIf (evTst (evOp isD (evVar 0) (evC .non))) (evC (.int
  0)) (evC (.int 1)))) evSkip) (evSeq (evIfS (evOrT (evTru (evCB (isiD "int") (evConsC (evVar 0) evNil))) (evTru (evCB (isiD "str") (evConsC (evVar 0) evNil)))) (evRet (evIf (evTru
  (evCB (isiD "int") (evConsC (evVar 0) evNil))) (evC (.int 2)) (evC (.int 3)))) evSkip) (evRet (evIf (evTru (evCB (isiD "tuple") (evConsC (evVar 0) evNil))) (evC (.int 4)) (evIf (evTru
  (evCB (isiD "list") (evConsC (evVar 0) evNil))) (evC (.int 5)) (evC (.int 6)))))))
def b18 : SemS :=
(evSeq (evAsg 2 (evCall 17 1 (evConsS (evVar 1) evNil))) (evSeq (evIfS (evOrT (evTst (evOp neD (evCall 17 1 (evConsS (evVar 0) evNil)) (evVar 2))) (evTst (evOp eqD (evVar 2) (evC (.int
  6))))) (evRet (evC (.bl false))) evSkip) (evSeq (evIfS (evTst (evOp inD (evVar 2) (evDisp tupD (evConsS (evC (.int 4)) (evConsS (evC (.int 5)) evNil))))) (evRet (evAndV (evOp eqD
  (evCB lenD (evConsC (evVar 0) evNil)) (evCB lenD (evConsC (evVar 1) evNil))) (evOp eqD (evLc (evZip (evConsS (evVar 0) (evConsS (evVar 1) evNil))) (.tp [(.nm 3), (.nm 4)]) (evNotT
  (evTru (evCall 18 2 (evConsS (evVar 3) (evConsS (evVar 4) evNil))))) (evC (.int 1)) [3, 4]) (evDisp lstD evNil)))) evSkip) (evRet (evOp eqD (evVar 0) (evVar 1))))))
def b19 : SemS :=
(evSeq (evFor (evRng1 (evC (.int 1200))) (.nm 2) (evSeq (evIfS (evTst (evOp eqD (evVar 1) (evC (.int 0)))) (evRet (evVar 0)) evSkip) (evPar [0, 1] (evConsS (evVar 1) (evConsS (evOp
  modD (evVar 0) (evVar 1)) evNil))))) (evRet (evVar 0)))
def b20 : SemS :=
(evSeq (evAsg 2 (evCall 19 2 (evConsS (evCB absD (evConsC (evVar 0) evNil)) (evConsS (evCB absD (evConsC (evVar 1) evNil)) evNil)))) (evSeq (evAsg 2 (evIf (evTst (evOp gtD (evVar 1)
  (evC (.int 0)))) (evVar 2) (evUn negD (evVar 2)))) (evRet (evDisp tupD (evConsS (evOp fdivD (evVar 0) (evVar 2)) (evConsS (evOp fdivD (evVar 1) (evVar 2)) evNil))))))
def b21 : SemS :=
(evSeq (evAsg 2 (evC (.int 0))) (evSeq (evFor (evRng1 (evC (.int 4))) (.nm 3) (evAsg 2 (evOp modD (evCB intD (evConsC (evOp addD (evOp addD (evOp mulD (evVar 2) (evOp powD (evC (.int
  10)) (evC (.int 18)))) (evOp mulD (evCall 15 2 (evConsS (evVar 0) (evConsS (evOp powD (evC (.int 10)) (evC (.int 9))) evNil))) (evOp powD (evC (.int 10)) (evC (.int 9))))) (evCall
  15 2 (evConsS (evVar 0) (evConsS (evOp powD (evC (.int 10)) (evC (.int 9))) evNil)))) evNil)) (evOp addD (evVar 1) (evC (.int 1)))))) (evRet (evVar 2))))
def b22 : SemS :=
(evSeq (evAsg 1 (evCall 16 2 (evConsS (evVar 0) (evConsS (evDisp lstD (evConsS (evC (.int 1)) (evConsS (evC (.int 8)) (evConsS (evOp powD (evC (.int 10)) (evC (.int 12))) (evConsS (evOp
  powD (evC (.int 10)) (evC (.int 60))) evNil))))) evNil)))) (evRet (evCall 20 2 (evConsS (evOp mulD (evCall 21 2 (evConsS (evVar 0) (evConsS (evVar 1) evNil))) (evCall 16 2 (evConsS
  (evVar 0) (evConsS (evDisp lstD (evConsS (evC (.int 1)) (evConsS (evUn negD (evC (.int 1))) evNil))) evNil)))) (evConsS (evOp addD (evC (.int 1)) (evCall 21 2 (evConsS (evVar 0) (evConsS
  (evOp subD (evVar 1) (evC (.int 1))) evNil)))) evNil)))))
def b23 : SemS :=
(evSeq (evPar [2, 3] (evConsS (evOp mulD (evIx (evVar 0) (evC (.int 0))) (evIx (evVar 1) (evC (.int 1)))) (evConsS (evOp mulD (evIx (evVar 1) (evC (.int 0))) (evIx (evVar 0) (evC (.int
  1)))) evNil))) (evSeq (evAsg 4 (evDisp lstD (evConsS (evCall 10 2 (evConsS (evVar 0) (evConsS (evVar 1) evNil))) (evConsS (evCall 11 2 (evConsS (evVar 0) (evConsS (evVar 1) evNil)))
  (evConsS (evCall 13 2 (evConsS (evVar 0) (evConsS (evVar 1) evNil))) (evConsS (evCall 3 1 (evConsS (evVar 0) evNil)) evNil)))))) (evSeq (evAsg 5 (evDisp lstD (evConsS (evCall 20 2
  (evConsS (evOp addD (evVar 2) (evVar 3)) (evConsS (evOp mulD (evIx (evVar 0) (evC (.int 1))) (evIx (evVar 1) (evC (.int 1)))) evNil))) (evConsS (evCall 20 2 (evConsS (evOp mulD (evIx
  (evVar 0) (evC (.int 0))) (evIx (evVar 1) (evC (.int 0)))) (evConsS (evOp mulD (evIx (evVar 0) (evC (.int 1))) (evIx (evVar 1) (evC (.int 1)))) evNil))) (evConsS (evOp gtD (evVar
  2) (evVar 3)) (evConsS (evC (.bl true)) evNil)))))) (evSeq (evIfS (evNotT (evTru (evCall 18 2 (evConsS (evVar 4) (evConsS (evVar 5) evNil))))) (evRet (evC (.bl false))) evSkip) (evSeq
  (evIfS (evTst (evOp eqD (evIx (evVar 1) (evC (.int 0))) (evC (.int 0)))) (evRet (evOp eqD (evLam 25 (evCall 12 2 (evConsS (evVar 0) (evConsS (evVar 1) evNil)))) (evC (.str "no"))))
  evSkip) (evRet (evCall 18 2 (evConsS (evCall 12 2 (evConsS (evVar 0) (evConsS (evVar 1) evNil))) (evConsS (evCall 20 2 (evConsS (evOp mulD (evIx (evVar 0) (evC (.int 0))) (evIx (evVar
  1) (evC (.int 1)))) (evConsS (evOp mulD (evIx (evVar 0) (evC (.int 1))) (evIx (evVar 1) (evC (.int 0)))) evNil))) evNil)))))))))
def b24 : SemS :=
(evSeq (evBoxAsg 1 (evCall 14 1 (evConsS (evVar 0) evNil))) (evSeq (evAsg 2 (evCall 22 1 (evConsS (evVar 1) evNil))) (evSeq (evFor (evRng1 (evC (.int 10))) (.nm 3) (evSeq (evAsg 4 (evCall
  22 1 (evConsS (evVar 1) evNil))) (evSeq (evIfS (evOrT (evNotT (evTru (evCall 23 2 (evConsS (evVar 4) (evConsS (evVar 2) evNil))))) (evOrT (evNotT (evTru (evCall 23 2 (evConsS (evVar
  2) (evConsS (evVar 4) evNil))))) (evNotT (evTru (evCall 23 2 (evConsS (evVar 4) (evConsS (evVar 4) evNil))))))) (evRet (evC (.bl false))) evSkip) (evAsg 2 (evVar 4))))) (evSeq (evAsg
  5 (evOp powD (evC (.int 10)) (evC (.int 60)))) (evSeq (evAsg 6 (evDisp lstD (evConsS (evCall 9 2 (evConsS (evC (.int 6)) (evConsS (evUn negD (evC (.int 4))) evNil))) (evConsS (evCall
  9 2 (evConsS (evC (.int 0)) (evConsS (evUn negD (evVar 5)) evNil))) (evConsS (evCall 9 2 (evConsS (evVar 5) (evConsS (evVar 5) evNil))) (evConsS (evCall 10 2 (evConsS (evDisp tupD
  (evConsS (evC (.int 1)) (evConsS (evC (.int 2)) evNil))) (evConsS (evDisp tupD (evConsS (evC (.int 1)) (evConsS (evC (.int 3)) evNil))) evNil))) (evConsS (evCall 12 2 (evConsS (evDisp
  tupD (evConsS (evC (.int 1)) (evConsS (evC (.int 2)) evNil))) (evConsS (evDisp tupD (evConsS (evUn negD (evC (.int 3))) (evConsS (evC (.int 1)) evNil))) evNil))) evNil))))))) (evSeq
  (evAsg 6 (evOp addD (evVar 6) (evDisp lstD (evConsS (evCall 11 2 (evConsS (evDisp tupD (evConsS (evVar 5) (evConsS (evC (.int 1)) evNil))) (evConsS (evDisp tupD (evConsS (evVar 5)
  (evConsS (evC (.int 1)) evNil))) evNil))) (evConsS (evCall 11 2 (evConsS (evDisp tupD (evConsS (evC (.int 2)) (evConsS (evC (.int 3)) evNil))) (evConsS (evDisp tupD (evConsS (evUn
  negD (evC (.int 3))) (evConsS (evC (.int 4)) evNil))) evNil))) (evConsS (evCall 13 2 (evConsS (evDisp tupD (evConsS (evC (.int 2)) (evConsS (evC (.int 3)) evNil))) (evConsS (evDisp
  tupD (evConsS (evC (.int 3)) (evConsS (evC (.int 4)) evNil))) evNil))) (evConsS (evCall 13 2 (evConsS (evDisp tupD (evConsS (evUn negD (evC (.int 1))) (evConsS (evC (.int 2)) evNil)))
  (evConsS (evDisp tupD (evConsS (evUn negD (evC (.int 2))) (evConsS (evC (.int 3)) evNil))) evNil))) evNil))))))) (evSeq (evIfS (evNotT (evTru (evCall 18 2 (evConsS (evVar 6) (evConsS
  (evDisp lstD (evConsS (evDisp tupD (evConsS (evUn negD (evC (.int 3))) (evConsS (evC (.int 2)) evNil))) (evConsS (evDisp tupD (evConsS (evC (.int 0)) (evConsS (evC (.int 1)) evNil)))
  (evConsS (evDisp tupD (evConsS (evC (.int 1)) (evConsS (evC (.int 1)) evNil))) (evConsS (evDisp tupD (evConsS (evC (.int 5)) (evConsS (evC (.int 6)) evNil))) (evConsS (evDisp tupD
  (evConsS (evUn negD (evC (.int 1))) (evConsS (evC (.int 6)) evNil))) (evConsS (evDisp tupD (evConsS (evOp mulD (evVar 5) (evVar 5)) (evConsS (evC (.int 1)) evNil))) (evConsS (evDisp
  tupD (evConsS (evUn negD (evC (.int 1))) (evConsS (evC (.int 2)) evNil))) (evConsS (evC (.bl false)) (evConsS (evC (.bl true)) evNil)))))))))) evNil))))) (evRet (evC (.bl false)))
  evSkip) (evSeq (evAsg 7 (evDisp lstD (evConsS (evDisp tupD (evConsS (evC (.int 1)) (evConsS (evC (.int 2)) evNil))) (evConsS (evDisp tupD (evConsS (evC (.int 0)) (evConsS (evC (.int
  1)) evNil))) (evConsS (evDisp tupD (evConsS (evVar 5) (evConsS (evC (.int 1)) evNil))) (evConsS (evDisp tupD (evConsS (evC (.int 1)) (evConsS (evVar 5) evNil))) (evConsS (evDisp tupD
  (evConsS (evOp addD (evVar 5) (evC (.int 1))) (evConsS (evC (.int 1)) evNil))) (evConsS (evDisp tupD (evConsS (evOp subD (evUn negD (evVar 5)) (evC (.int 1))) (evConsS (evC (.int
  1)) evNil))) (evConsS (evDisp tupD (evConsS (evC (.int 1)) (evConsS (evOp addD (evVar 5) (evC (.int 1))) evNil))) (evConsS (evDisp tupD (evConsS (evC (.int 2)) (evConsS (evC (.int
  4)) evNil))) (evConsS (evDisp tupD (evConsS (evC (.int 0)) (evConsS (evC (.int 2)) evNil))) (evConsS (evDisp tupD (evConsS (evC (.int 1)) (evConsS (evC (.int 0)) evNil))) (evConsS
  (evDisp tupD (evConsS (evC (.int 1)) (evConsS (evUn negD (evC (.int 2))) evNil))) (evConsS (evDisp lstD (evConsS (evC (.int 1)) (evConsS (evC (.int 2)) evNil))) evNil))))))))))))))
  (evSeq (evAsg 7 (evOp addD (evVar 7) (evDisp lstD (evConsS (evDisp tupD (evConsS (evC (.int 1)) evNil)) (evConsS (evDisp tupD (evConsS (evC (.int 1)) (evConsS (evC (.int 2)) (evConsS
  (evC (.int 3)) evNil)))) (evConsS (evDisp tupD (evConsS (evC (.bl true)) (evConsS (evC (.int 2)) evNil))) (evConsS (evDisp tupD (evConsS (evC (.int 1)) (evConsS (evC (.bl true)) evNil)))
  (evConsS (evC .non) (evConsS (evC (.int 1)) (evConsS (evC (.str "1/2")) (evConsS (evDisp tupD (evConsS (evDisp tupD (evConsS (evC (.int 1)) evNil)) (evConsS (evC (.int 2)) evNil)))
  evNil))))))))))) (evSeq (evIfS (evNotT (evTru (evCall 18 2 (evConsS (evLc (evIt (evVar 7)) (.nm 12) evYes (evCall 3 1 (evConsS (evVar 12) evNil)) [12]) (evConsS (evOp addD (evOp mulD
  (evDisp lstD (evConsS (evC (.bl true)) evNil)) (evC (.int 4))) (evOp mulD (evDisp lstD (evConsS (evC (.bl false)) evNil)) (evC (.int 16)))) evNil))))) (evRet (evC (.bl false))) evSkip)
  (evSeq (evAsgG (.tp [(.nm 8), (.nm 9)]) (evDisp tupD (evConsS (evCall 16 2 (evConsS (evVar 1) (evConsS (evSl (evVar 7) (some (evC (.int 4))) none) evNil))) (evConsS (evDisp lstD evNil)
  evNil)))) (evSeq (evFor (evIt (evDisp tupD (evConsS (evC (.fn 10)) (evConsS (evC (.fn 11)) (evConsS (evC (.fn 12)) (evConsS (evC (.fn 13)) evNil)))))) (.nm 10) (evSeq (evAsg 9 (evOp
  addD (evVar 9) (evDisp lstD (evConsS (evLam 25 (evCallV 10 2 (evConsS (evVar 8) (evConsS (evVar 8) evNil)))) evNil)))) (evAsg 9 (evOp addD (evVar 9) (evDisp lstD (evConsS (evLam 25
  (evCallV 10 2 (evConsS (evDisp tupD (evConsS (evC (.int 0)) (evConsS (evC (.int 1)) evNil))) (evConsS (evVar 8) evNil)))) evNil)))))) (evSeq (evFor (evIt (evDisp tupD (evConsS (evDisp
  tupD (evConsS (evOp addD (evVar 5) (evC (.int 1))) (evConsS (evC (.int 1)) evNil))) (evConsS (evDisp tupD (evConsS (evC (.int 1)) (evConsS (evOp addD (evVar 5) (evC (.int 1))) evNil)))
  (evConsS (evDisp tupD (evConsS (evC (.int 1)) (evConsS (evC (.int 0)) evNil))) (evConsS (evDisp tupD (evConsS (evC (.bl true)) (evConsS (evC (.int 1)) evNil))) (evConsS (evDisp tupD
  (evConsS (evC (.int 1)) (evConsS (evC .non) evNil))) (evConsS (evDisp tupD (evConsS (evC .non) (evConsS (evC (.int 0)) evNil))) evNil)))))))) (.nm 11) (evAsg 9 (evOp addD (evVar 9)
  (evDisp lstD (evConsS (evLam 25 (evCall 9 2 (evConsS (evIx (evVar 11) (evC (.int 0))) (evConsS (evIx (evVar 11) (evC (.int 1))) evNil)))) evNil))))) (evRet (evOp eqD (evVar 9) (evOp
  addD (evOp mulD (evDisp lstD (evConsS (evC (.str "portion")) evNil)) (evC (.int 8))) (evOp mulD (evDisp lstD (evConsS (evC (.str "number")) evNil)) (evC (.int 6)))))))))))))))))))
def b25 : SemS :=
(evTryAs 4 [0, 1, 2] (evSeq (evAsg 1 (evDisp lstD (evConsS (evDisp tupD (evConsS (evC (.str "portion")) (evConsS (evCB (isED [1]) (evConsC (evVar 4) evNil)) evNil))) (evConsS (evDisp
  tupD (evConsS (evC (.str "number")) (evConsS (evCB (isED [0]) (evConsC (evVar 4) evNil)) evNil))) evNil)))) (evRet (evJoin (evC (.str "")) (evLc (evItH (evOp addD (evVar 1) (evDisp
  lstD (evConsS (evDisp tupD (evConsS (evC (.str "no")) (evConsS (evCB (isED [2]) (evConsC (evVar 4) evNil)) evNil))) evNil)))) (.tp [(.nm 2), (.nm 3)]) (evTru (evVar 3)) (evVar 2)
  [2, 3])))) (evRet (evC (.str "none"))))
def dsV : List DefV := [⟨3, 3, b0⟩, ⟨3, 3, b1⟩, ⟨3, 3, b2⟩, ⟨1, 1, b3⟩, ⟨1, 1, b4⟩, ⟨2, 3, b5⟩, ⟨2, 2, b6⟩, ⟨2, 2, b7⟩, ⟨2, 2, b8⟩, ⟨2, 2, b9⟩, ⟨2, 2, b10⟩, ⟨2, 2, b11⟩, ⟨2, 2, b12⟩, ⟨2, 2, b13⟩, ⟨1, 2, b14⟩, ⟨2, 3, b15⟩, ⟨2, 2, b16⟩, ⟨1, 1, b17⟩, ⟨2, 5, b18⟩, ⟨2, 3, b19⟩, ⟨2, 3, b20⟩, ⟨2, 4, b21⟩, ⟨1, 2, b22⟩, ⟨2, 6, b23⟩, ⟨1, 13, b24⟩, ⟨1, 5, b25⟩]
theorem dsV_eq : ds.map toV = dsV := rfl
theorem toV_at (fu n : Nat) : fnsAt ds fu n = fnsV dsV fu n := by rw [fnsV_eq, dsV_eq]
theorem map_rows : (rows ++ rowsH).map (·.1) = ds := rfl
end K00

set_option exponentiation.threshold 700
namespace K00
open L2 PySem PyProof.Rows PySem.Spec Pv
abbrev fu : Nat := 2000
abbrev C (n : Nat) : Fns := fnsAt ds fu n
abbrev V (n : Nat) : Fns := fnsV dsV fu n
theorem cv (n : Nat) : C n = V n := toV_at fu n
variable {n : Nat} {bx : Bx}
abbrev G : Int := 1000000000000000000000000000000000000000000000000000000000000
theorem beqI (i j : Int) : (i == j) = decide (i = j) := rfl
theorem eq_int {i j : Int} : eqD (.int i) (.int j) = some (.bl (decide (i = j)), false) := by simp [eqD, D.isData, deq, beqI]
/-! ### the common divisor by turns -/
theorem eu (c : Fns) : ∀ (k n : Nat) (a b : Nat) (st : Int) (s : Slot) (bx : Bx), 2 * k + 1 ≤ n → b < 2 ^ k →
    forL (.nm 2) (i19_0B.den c fu) (rgD st n) [.val (.int (a : Nat)), .val (.int (b : Nat)), s] bx = .ret (.int (Nat.gcd a b : Nat)) false bx := by
  have stop : ∀ (n : Nat) (a : Nat) (st : Int) (s : Slot) (bx : Bx), 1 ≤ n → forL (.nm 2) (i19_0B.den c fu) (rgD st n) [.val (.int (a : Nat)), .val (.int ((0 : Nat) : Int)), s] bx = .ret (.int (Nat.gcd a 0 : Nat)) false bx := by
    intro n a st s bx hn
    obtain ⟨m, rfl⟩ : ∃ m, n = m + 1 := ⟨n - 1, by omega⟩
    simp [rgD, forL, Tgt.bind, i19_0B, eq_int]
  have go : ∀ (n : Nat) (a b : Nat) (st : Int) (s : Slot) (bx : Bx), 0 < b → forL (.nm 2) (i19_0B.den c fu) (rgD st (n + 1)) [.val (.int (a : Nat)), .val (.int (b : Nat)), s] bx =
      forL (.nm 2) (i19_0B.den c fu) (rgD (st + 1) n) [.val (.int (b : Nat)), .val (.int ((a % b : Nat) : Int)), .val (.int st)] bx := by
    intro n a b st s bx hb
    have hm : modD (.int (a : Int)) (.int (b : Int)) = some (.int ((a % b : Nat) : Int), false) := by
      rw [Pv.mod_int (by omega)]
      rfl
    have hne : ¬ b = 0 := by omega
    simp [rgD, forL, Tgt.bind, i19_0B, eq_int, hm, hne, parSlots]
  intro k
  induction k with
  | zero =>
    intro n a b st s bx hn hb
    have : b = 0 := by omega
    subst this
    exact stop n a st s bx (by omega)
  | succ k ih =>
    intro n a b st s bx hn hb
    by_cases h0 : b = 0
    · subst h0; exact stop n a st s bx (by omega)
    · obtain ⟨m, rfl⟩ : ∃ m, n = m + 1 + 1 := ⟨n - 2, by omega⟩
      rw [go _ _ _ _ _ _ (by omega)]
      have e1 : Nat.gcd a b = Nat.gcd b (a % b) := by rw [Nat.gcd_comm a b, Nat.gcd_rec b a, Nat.gcd_comm]
      rw [e1]
      by_cases h1 : a % b = 0
      · rw [h1]; exact stop _ _ _ _ _ (by omega)
      · rw [go _ _ _ _ _ _ (by omega)]
        have e2 : Nat.gcd b (a % b) = Nat.gcd (a % b) (b % (a % b)) := by rw [Nat.gcd_comm b (a % b), Nat.gcd_rec (a % b) b, Nat.gcd_comm]
        rw [e2]
        have lt : a % b < b := Nat.mod_lt _ (by omega)
        have l2 : b % (a % b) < 2 ^ k := by
          have h2 : b < 2 * 2 ^ k := by rw [Nat.pow_succ] at hb; omega
          by_cases h3 : a % b ≤ 2 ^ k
          · exact Nat.lt_of_lt_of_le (Nat.mod_lt _ (by omega)) h3
          · have : b % (a % b) = b - a % b := by
              rw [Nat.mod_eq_sub_mod (by omega), Nat.mod_eq_of_lt (by omega)]
            omega
        exact ih m _ _ _ _ _ (by omega) l2
theorem divisor {a b : Int} (ha : 0 ≤ a) (hb : 0 ≤ b) (hl : b.natAbs < 2 ^ 599) : C (n + 1) 19 [.int a, .int b] bx = .ok ⟨.int (Nat.gcd a.natAbs b.natAbs : Nat), false, bx⟩ := by
  obtain ⟨x, rfl⟩ := Int.eq_ofNat_of_zero_le ha
  obtain ⟨y, rfl⟩ := Int.eq_ofNat_of_zero_le hb
  have e := eu (C n) 599 1200 x y 0 .none bx (by omega) (by simpa using hl)
  show runDef fu (C n) d19 _ bx = _
  simp [d19, startV, i19_0S, e]
/-! ### lowest terms -/
def q (i s : Int) : Int := if 0 < s then i / s else i.fdiv s
def sh (t b : Int) : Int := if 0 < b then (Nat.gcd t.natAbs b.natAbs : Nat) else -((Nat.gcd t.natAbs b.natAbs : Nat) : Int)
def low (t b : Int) : D := .tup [.int (q t (sh t b)), .int (q b (sh t b))]
theorem sh_ok {t b : Int} (hb : b ≠ 0) (hl : b.natAbs < 2 ^ 599) : sh t b ≠ 0 ∧ (sh t b).natAbs.log2 < 9000 := by
  have h1 : 0 < Nat.gcd t.natAbs b.natAbs := Nat.gcd_pos_of_pos_right _ (by omega)
  have h2 : Nat.gcd t.natAbs b.natAbs ≤ b.natAbs := Nat.gcd_le_right _ (by omega)
  have e : (sh t b).natAbs = Nat.gcd t.natAbs b.natAbs := by unfold sh; split <;> omega
  refine ⟨fun z => by rw [z] at e; simp at e; omega, ?_⟩
  rw [e]
  have : (Nat.gcd t.natAbs b.natAbs).log2 < 599 := (Nat.log2_lt (by omega)).mpr (Nat.lt_of_le_of_lt h2 hl)
  omega
theorem fdiv_q {i s : Int} (h : s ≠ 0) (hl : s.natAbs.log2 < 9000) : fdivD (.int i) (.int s) = some (.int (q i s), false) := by
  show (fdivI i s).map _ = _
  unfold fdivI q
  by_cases hp : 0 < s
  · rw [if_pos hp, if_pos hl, if_pos hp]; rfl
  · have hn : s < 0 := by omega
    rw [if_neg hp, if_neg hp]
    simp [hn, hl]
theorem gcd_int {i j : Int} : gcdD [.int i, .int j] = some (.int (Nat.gcd i.natAbs j.natAbs : Nat), false) := rfl
theorem abs_int {i : Int} : absD [.int i] = some (.int (i.natAbs : Nat), false) := by
  show some (D.int (if i < 0 then -i else i), false) = _
  congr 3
  split <;> omega
theorem lowest {t b : Int} (hb : b ≠ 0) (hl : b.natAbs < 2 ^ 599) : C (n + 1) 5 [.int t, .int b] bx = .ok ⟨low t b, false, bx⟩ := by
  show runDef fu (C n) d5 _ bx = _
  obtain ⟨h1, h2⟩ := sh_ok (t := t) hb hl
  have f : ∀ i, fdivD (.int i) (.int (sh t b)) = some (.int (q i (sh t b)), false) := fun i => fdiv_q h1 h2
  by_cases hp : 0 < b
  · have e : ((Nat.gcd t.natAbs b.natAbs : Nat) : Int) = sh t b := by unfold sh; rw [if_pos hp]
    simp [d5, startV, gcd_int, hp, e, f, tupD, lim, low]
  · have e : -((Nat.gcd t.natAbs b.natAbs : Nat) : Int) = sh t b := by unfold sh; rw [if_neg hp]
    simp [d5, startV, gcd_int, hp, e, f, tupD, lim, low]
theorem plain {t b : Int} (hb : b ≠ 0) (hl : b.natAbs < 2 ^ 599) : C (n + 2) 20 [.int t, .int b] bx = .ok ⟨low t b, false, bx⟩ := by
  show runDef fu (C (n + 1)) d20 _ bx = _
  obtain ⟨h1, h2⟩ := sh_ok (t := t) hb hl
  have f : ∀ i, fdivD (.int i) (.int (sh t b)) = some (.int (q i (sh t b)), false) := fun i => fdiv_q h1 h2
  have dv : C (n + 1) 19 [.int (t.natAbs : Nat), .int (b.natAbs : Nat)] bx = .ok ⟨.int (Nat.gcd t.natAbs b.natAbs : Nat), false, bx⟩ := by
    have := divisor (n := n) (bx := bx) (a := (t.natAbs : Nat)) (b := (b.natAbs : Nat)) (by omega) (by omega) (by simpa using hl)
    simpa using this
  by_cases hp : 0 < b
  · have e : ((Nat.gcd t.natAbs b.natAbs : Nat) : Int) = sh t b := by unfold sh; rw [if_pos hp]
    simp [d20, startV, abs_int, dv, hp, e, f, tupD, lim, low]
  · have e : -((Nat.gcd t.natAbs b.natAbs : Nat) : Int) = sh t b := by unfold sh; rw [if_neg hp]
    simp [d20, startV, abs_int, dv, hp, e, f, tupD, lim, low]
end K00

set_option exponentiation.threshold 700
namespace K00
open L2 PySem PyProof.Rows PySem.Spec Pv
variable {n : Nat} {bx : Bx}
abbrev dP (t b : Int) : D := .tup [.int t, .int b]
structure Rd (t b : Int) : Prop where
  pos : 1 ≤ b
  top : b ≤ G
  lo : -G ≤ t
  hi : t ≤ G
  one : Nat.gcd t.natAbs b.natAbs = 1
theorem G_pow : G < 2 ^ 200 := by decide
theorem small {i : Int} (h1 : -G ≤ i) (h2 : i ≤ G) : i.natAbs < 2 ^ 200 := by
  have := G_pow
  omega
theorem mul_b {i j : Int} {a b : Nat} (hi : i.natAbs < 2 ^ a) (hj : j.natAbs < 2 ^ b) : (i * j).natAbs < 2 ^ (a + b) := by
  rw [Int.natAbs_mul, Nat.pow_add]
  exact Nat.mul_lt_mul'' hi hj
theorem mul_m {i j : Int} {a b : Nat} (hi : i.natAbs < 2 ^ a) (hj : j.natAbs < 2 ^ b) (ha : a ≤ 400) (hb : b ≤ 400) : mulD (.int i) (.int j) = some (.int (i * j), false) := by
  have lg : ∀ {x : Nat} {k : Nat}, x < 2 ^ k → x.log2 ≤ k := fun {x k} h => by
    by_cases h0 : x = 0
    · subst h0; have : Nat.log2 0 = 0 := by decide
      omega
    · have := (Nat.log2_lt h0).mpr h
      omega
  refine mul_int' ?_
  unfold mulOk
  have h1 := lg hi
  have h2 := lg hj
  simp only [Bool.or_eq_true, decide_eq_true_eq]
  right
  omega
theorem Rd.bt {t b : Int} (h : Rd t b) : t.natAbs < 2 ^ 200 := small h.lo h.hi
theorem Rd.bb {t b : Int} (h : Rd t b) : b.natAbs < 2 ^ 200 := by
  have h1 := h.pos
  exact small (Int.le_trans (by decide : -G ≤ 1) h1) h.top
theorem mulR {i j : Int} (hi : i.natAbs < 2 ^ 200) (hj : j.natAbs < 2 ^ 200) : mulD (.int i) (.int j) = some (.int (i * j), false) := mul_m hi hj (by omega) (by omega)
theorem is_whole {v lo hi : Int} : C (n + 1) 0 [.int v, .int lo, .int hi] bx = .ok ⟨.bl (decide (lo ≤ v) && decide (v ≤ hi)), false, bx⟩ := by
  show runDef fu (C n) d0 _ bx = _
  by_cases h : lo ≤ v <;> simp [d0, startV, isiD, D.ty, tyIs, h]
theorem is_tup2 {x y : D} : C (n + 1) 2 [.tup [x, y], .int 2, .int 2] bx = .ok ⟨.bl true, false, bx⟩ := by
  show runDef fu (C n) d2 _ bx = _
  simp [d2, startV, isiD, D.ty, tyIs, lenD]
theorem is_portion {t b : Int} (h : Rd t b) : C (n + 2) 3 [dP t b] bx = .ok ⟨.bl true, false, bx⟩ := by
  show runDef fu (C (n + 1)) d3 _ bx = _
  obtain ⟨h1, h2, h3, h4, h5⟩ := h
  simp [d3, startV, is_tup2, is_whole, ixD, atD, D.boxN, gcd_int, h1, h2, h3, h4, h5, eq_int]
theorem need {t b : Int} (h : Rd t b) : C (n + 3) 4 [dP t b] bx = .ok ⟨.non, false, bx⟩ := by
  show runDef fu (C (n + 2)) d4 _ bx = _
  simp [d4, startV, is_portion h]
theorem prod_ok {b d : Int} (hb : b ≠ 0) (hd : d ≠ 0) (h1 : b.natAbs < 2 ^ 200) (h2 : d.natAbs < 2 ^ 200) : b * d ≠ 0 ∧ (b * d).natAbs < 2 ^ 599 := by
  refine ⟨Int.mul_ne_zero hb hd, Nat.lt_of_lt_of_le (mul_b h1 h2) (Nat.pow_le_pow_right (by omega) (by omega))⟩
theorem plus {a b c d : Int} (h : Rd a b) (k : Rd c d) : C (n + 2) 6 [dP a b, dP c d] bx = .ok ⟨low (a * d + c * b) (b * d), false, bx⟩ := by
  show runDef fu (C (n + 1)) d6 _ bx = _
  obtain ⟨p1, p2⟩ := prod_ok (b := b) (d := d) (by have := h.pos; omega) (by have := k.pos; omega) h.bb k.bb
  simp [d6, startV, ixD, atD, D.boxN, mulR h.bt k.bb, mulR k.bt h.bb, mulR h.bb k.bb, lowest p1 p2]
theorem times {a b c d : Int} (h : Rd a b) (k : Rd c d) : C (n + 2) 7 [dP a b, dP c d] bx = .ok ⟨low (a * c) (b * d), false, bx⟩ := by
  show runDef fu (C (n + 1)) d7 _ bx = _
  obtain ⟨p1, p2⟩ := prod_ok (b := b) (d := d) (by have := h.pos; omega) (by have := k.pos; omega) h.bb k.bb
  simp [d7, startV, ixD, atD, D.boxN, mulR h.bt k.bt, mulR h.bb k.bb, lowest p1 p2]
theorem sum_ok {a b c d : Int} (h : Rd a b) (k : Rd c d) : C (n + 4) 10 [dP a b, dP c d] bx = .ok ⟨low (a * d + c * b) (b * d), false, bx⟩ := by
  show runDef fu (C (n + 3)) d10 _ bx = _
  simp [d10, startV, need h, need k, plus h k]
theorem product_ok {a b c d : Int} (h : Rd a b) (k : Rd c d) : C (n + 4) 11 [dP a b, dP c d] bx = .ok ⟨low (a * c) (b * d), false, bx⟩ := by
  show runDef fu (C (n + 3)) d11 _ bx = _
  simp [d11, startV, need h, need k, times h k]
theorem higher_ok {a b c d : Int} (h : Rd a b) (k : Rd c d) : C (n + 4) 13 [dP a b, dP c d] bx = .ok ⟨.bl (decide (c * b < a * d)), false, bx⟩ := by
  have l : C (n + 3) 8 [dP a b, dP c d] bx = .ok ⟨.int (a * d - c * b), false, bx⟩ := by
    show runDef fu (C (n + 2)) d8 _ bx = _
    simp [d8, startV, ixD, atD, D.boxN, mulR h.bt k.bb, mulR k.bt h.bb]
  show runDef fu (C (n + 3)) d13 _ bx = _
  have e : (0 < a * d - c * b) ↔ (c * b < a * d) := by omega
  simp [d13, startV, need h, need k, l, e]
theorem by_zero {a b c d : Int} (h : Rd a b) (k : Rd c d) (hc : c = 0) : C (n + 4) 12 [dP a b, dP c d] bx = .exc ⟨2, none⟩ bx := by
  show runDef fu (C (n + 3)) d12 _ bx = _
  have e0 : eqD (.int c) (.int 0) = some (.bl true, false) := by rw [eq_int, decide_eq_true hc]
  simp [d12, startV, need h, need k, ixD, atD, D.boxN, e0]
theorem by_ok {a b c d : Int} (h : Rd a b) (k : Rd c d) (hc : c ≠ 0) : C (n + 4) 12 [dP a b, dP c d] bx = .ok ⟨low (a * d) (b * c), false, bx⟩ := by
  show runDef fu (C (n + 3)) d12 _ bx = _
  obtain ⟨p1, p2⟩ := prod_ok (b := b) (d := c) (by have := h.pos; omega) hc h.bb k.bt
  simp [d12, startV, need h, need k, ixD, atD, D.boxN, eq_int, hc, mulR h.bt k.bb, mulR h.bb k.bt, lowest p1 p2]
/-! the law's helpers -/
theorem hs (n : Nat) (xs : List D) (bx : Bx) : C (n + 1) 17 xs bx = runDef fu (C n) dSort xs bx := rfl
theorem hl (n : Nat) (xs : List D) (bx : Bx) : C (n + 1) 18 xs bx = runDef fu (C n) (dLike 17 18) xs bx := rfl
theorem hroll (n : Nat) (xs : List D) (bx : Bx) : C (n + 1) 15 xs bx = runDef fu (C n) dRoll xs bx := rfl
theorem hcup (n : Nat) (xs : List D) (bx : Bx) : C (n + 1) 14 xs bx = runDef fu (C n) dCup xs bx := rfl
theorem hsome (n : Nat) (xs : List D) (bx : Bx) : C (n + 1) 16 xs bx = runDef fu (C n) (dSome 15) xs bx := rfl
theorem like {n : Nat} {bx : Bx} {d : D} (hd : d.isData 4 = true) : C (n + 6) 18 [d, d] bx = .ok ⟨.bl true, false, bx⟩ := like_refl hs hl 4 d hd n bx
theorem lowData {t b : Int} {k : Nat} : (low t b).isData (k + 1) = true := by simp [low, D.isData, areData]
theorem errNo (n : Nat) (bx : Bx) : V (n + 1) 25 [.exn ⟨2, none⟩] bx = .ok ⟨.str "no", false, bx⟩ := by kernel_rfl
theorem errNum (n : Nat) (bx : Bx) : V (n + 1) 25 [.exn ⟨0, none⟩] bx = .ok ⟨.str "number", false, bx⟩ := by kernel_rfl
theorem errPor (n : Nat) (bx : Bx) : V (n + 1) 25 [.exn ⟨1, none⟩] bx = .ok ⟨.str "portion", false, bx⟩ := by kernel_rfl
theorem eNo : C (n + 1) 25 [.exn ⟨2, none⟩] bx = .ok ⟨.str "no", false, bx⟩ := by rw [cv]; exact errNo n bx
theorem eNum : C (n + 1) 25 [.exn ⟨0, none⟩] bx = .ok ⟨.str "number", false, bx⟩ := by rw [cv]; exact errNum n bx
theorem ePor : C (n + 1) 25 [.exn ⟨1, none⟩] bx = .ok ⟨.str "portion", false, bx⟩ := by rw [cv]; exact errPor n bx
theorem no_eq : eqD (.str "no") (.str "no") = some (.bl true, false) := by kernel_rfl
theorem pair_right {a b c d : Int} (h : Rd a b) (k : Rd c d) : C (n + 7) 23 [dP a b, dP c d] bx = .ok ⟨.bl true, false, bx⟩ := by
  show runDef fu (C (n + 6)) d23 _ bx = _
  obtain ⟨p1, p2⟩ := prod_ok (b := b) (d := d) (by have := h.pos; omega) (by have := k.pos; omega) h.bb k.bb
  have lk := like (n := n) (bx := bx) (d := .lst [low (a * d + c * b) (b * d), low (a * c) (b * d), .bl (decide (c * b < a * d)), .bl true]) (by simp [D.isData, areData, lowData])
  by_cases hc : c = 0
  · have e0 : eqD (.int c) (.int 0) = some (.bl true, false) := by rw [eq_int, decide_eq_true hc]
    simp [d23, i23_0, i23_1, i23_2, i23_3, i23_4, i23_5, startV, ixD, atD, D.boxN, mulR h.bt k.bb, mulR k.bt h.bb, mulR h.bb k.bb, mulR h.bt k.bt, parSlots, sum_ok h k, product_ok h k, higher_ok h k, is_portion h, plain p1 p2, lstD, lim, lk, e0, by_zero h k hc, eNo, no_eq]
  · obtain ⟨p3, p4⟩ := prod_ok (b := b) (d := c) (by have := h.pos; omega) hc h.bb k.bt
    have lk2 := like (n := n) (bx := bx) (d := low (a * d) (b * c)) lowData
    simp [d23, i23_0, i23_1, i23_2, i23_3, i23_4, i23_5, startV, ixD, atD, D.boxN, mulR h.bt k.bb, mulR k.bt h.bb, mulR h.bb k.bb, mulR h.bt k.bt, mulR h.bb k.bt, parSlots, sum_ok h k, product_ok h k, higher_ok h k, is_portion h, plain p1 p2, lstD, lim, lk, eq_int, hc, by_ok h k hc, plain p3 p4, lk2]
end K00

set_option exponentiation.threshold 700
namespace K00
open L2 PySem PyProof.Rows PySem.Spec Pv
variable {n : Nat} {bx : Bx}
theorem low_rd {t b : Int} (h1 : 1 ≤ b) (h2 : b ≤ G) (h3 : -G ≤ t) (h4 : t ≤ G) : ∃ t' b', low t b = dP t' b' ∧ Rd t' b' := by
  have gp : 0 < Nat.gcd t.natAbs b.natAbs := Nat.gcd_pos_of_pos_right _ (by omega)
  have es : sh t b = (Nat.gcd t.natAbs b.natAbs : Nat) := by unfold sh; rw [if_pos (by omega)]
  obtain ⟨x, hx⟩ := Nat.gcd_dvd_left t.natAbs b.natAbs
  obtain ⟨y, hy⟩ := Nat.gcd_dvd_right t.natAbs b.natAbs
  generalize hg : Nat.gcd t.natAbs b.natAbs = g at *
  have co : Nat.gcd x y = 1 := by
    have : g * Nat.gcd x y = g * 1 := by rw [← Nat.gcd_mul_left, ← hx, ← hy, hg, Nat.mul_one]
    exact Nat.eq_of_mul_eq_mul_left gp this
  have hb : b = (g : Int) * y := by
    have : (b.natAbs : Int) = b := by omega
    rw [← this, hy]; push_cast; rfl
  have ypos : 0 < y := by
    rcases Nat.eq_zero_or_pos y with z | z
    · subst z; simp at hb; omega
    · exact z
  have gp' : (g : Int) ≠ 0 := by omega
  have dv : ∀ k : Int, q ((g : Int) * k) (sh t b) = k := fun k => by
    unfold q
    rw [es, if_pos (by omega)]
    exact Int.mul_ediv_cancel_left k gp'
  have yb : (y : Int) ≤ b := by
    rw [hb]
    have : (1 : Int) * y ≤ g * y := Int.mul_le_mul_of_nonneg_right (by omega) (by omega)
    omega
  have xt : (x : Int) ≤ (t.natAbs : Int) := by
    rw [hx]; push_cast
    have : (1 : Int) * x ≤ g * x := Int.mul_le_mul_of_nonneg_right (by omega) (by omega)
    omega
  rcases Int.natAbs_eq t with ht | ht
  · have ht' : t = (g : Int) * x := by rw [ht, hx]; push_cast; rfl
    refine ⟨x, y, ?_, ⟨by omega, by omega, by omega, by omega, by simpa using co⟩⟩
    show D.tup [.int (q t (sh t b)), .int (q b (sh t b))] = _
    have e1 : q t (sh t b) = x := by
      have := dv x
      rwa [← ht'] at this
    have e2 : q b (sh t b) = y := by
      have := dv y
      rwa [← hb] at this
    rw [e1, e2]
  · have ht' : t = (g : Int) * (-x) := by rw [ht, hx]; push_cast; rw [Int.mul_neg]
    refine ⟨-x, y, ?_, ⟨by omega, by omega, by omega, by omega, by simpa using co⟩⟩
    show D.tup [.int (q t (sh t b)), .int (q b (sh t b))] = _
    have e1 : q t (sh t b) = -x := by
      have := dv (-x)
      rwa [← ht'] at this
    have e2 : q b (sh t b) = y := by
      have := dv y
      rwa [← hb] at this
    rw [e1, e2]
def InvG (size : Int) (vs : Vs) (bx : Bx) : Prop := ∃ f s3 x y, vs = [.val (.box 0), .val (.int size), .val (.int f), s3] ∧ bx = [[x, y]] ∧ 0 ≤ f ∧ f ≤ size
theorem great_turn {n : Nat} {size : Int} (h0 : 0 ≤ size) (d : D) (vs : Vs) (bx : Bx) (h : InvG size vs bx) : ∃ vs1, (Tgt.nm 3).bind d vs = some vs1 ∧ ∃ vs2 bx2, i21_1B.den (C (n + 1)) fu vs1 bx = .next vs2 bx2 ∧ InvG size vs2 bx2 := by
  obtain ⟨f, s3, x, y, rfl, rfl, f0, f1⟩ := h
  refine ⟨[.val (.box 0), .val (.int size), .val (.int f), .val d], rfl, ?_⟩
  obtain ⟨r1, x1, y1, e1, _, _⟩ := roll_ok (n := n) hroll (m := 1000000000) (by omega) (by decide) x y
  obtain ⟨r2, x2, y2, e2, _, _⟩ := roll_ok (n := n) hroll (m := 1000000000) (by omega) (by decide) x1 y1
  have p18 : powD (.int 10) (.int 18) = some (.int 1000000000000000000, false) := rfl
  have p9 : powD (.int 10) (.int 9) = some (.int 1000000000, false) := rfl
  have m1 : ∀ k : Int, mulD (.int k) (.int 1000000000000000000) = some (.int (k * 1000000000000000000), false) := fun k => mul_small (by decide)
  have m2 : ∀ k : Int, mulD (.int k) (.int 1000000000) = some (.int (k * 1000000000), false) := fun k => mul_small (by decide)
  have md : ∀ k : Int, modD (.int k) (.int (size + 1)) = some (.int (k % (size + 1)), false) := fun k => Pv.mod_int (by omega)
  refine ⟨[.val (.box 0), .val (.int size), .val (.int ((f * 1000000000000000000 + r1 * 1000000000 + r2) % (size + 1))), .val d], [[x2, y2]], ?_, ⟨_, _, x2, y2, rfl, rfl, Int.emod_nonneg _ (by omega), ?_⟩⟩
  · simp [i21_1B, p18, p9, m1, m2, e1, e2, md, Pv.intD]
  · have := Int.emod_lt_of_pos (f * 1000000000000000000 + r1 * 1000000000 + r2) (show 0 < size + 1 by omega)
    omega
theorem great {size : Int} (h0 : 0 ≤ size) (x y : Int) : ∃ f x' y', C (n + 2) 21 [.box 0, .int size] [[x, y]] = .ok ⟨.int f, false, [[x', y']]⟩ ∧ 0 ≤ f ∧ f ≤ size := by
  obtain ⟨vs2, bx2, e2, f, s3, x', y', rfl, rfl, f0, f1⟩ := forL_inv (t := .nm 3) (body := i21_1B.den (C (n + 1)) fu) (InvG size) (rgD 0 4) (fun d _ vs bx h => great_turn h0 d vs bx h) [.val (.box 0), .val (.int size), .val (.int 0), .none] [[x, y]] ⟨0, .none, x, y, rfl, rfl, by omega, h0⟩
  refine ⟨f, x', y', ?_, f0, f1⟩
  show runDef fu (C (n + 1)) d21 _ _ = _
  simp [d21, startV, i21_1S, e2]
theorem portion (x y : Int) : ∃ t b x' y', C (n + 3) 22 [.box 0] [[x, y]] = .ok ⟨dP t b, false, [[x', y']]⟩ ∧ Rd t b := by
  have p12 : powD (.int 10) (.int 12) = some (.int 1000000000000, false) := rfl
  have p60 : powD (.int 10) (.int 60) = some (.int G, false) := by kernel_rfl
  obtain ⟨d1, x1, y1, e1, m1⟩ := some_ok (n := n) hroll hsome (xs := [.int 1, .int 8, .int 1000000000000, .int G]) (by simp) (by decide) x y
  obtain ⟨size, rfl, p1, p2⟩ : ∃ size, d1 = .int size ∧ 1 ≤ size ∧ size ≤ G := by
    simp at m1
    rcases m1 with rfl | rfl | rfl | rfl
    · exact ⟨1, rfl, by decide, by decide⟩
    · exact ⟨8, rfl, by decide, by decide⟩
    · exact ⟨_, rfl, by decide, by decide⟩
    · exact ⟨_, rfl, by decide, by decide⟩
  obtain ⟨g, x2, y2, e2, g0, g1⟩ := great (n := n) (size := size) (by omega) x1 y1
  obtain ⟨d2, x3, y3, e3, m2⟩ := some_ok (n := n) hroll hsome (xs := [.int 1, .int (-1)]) (by simp) (by decide) x2 y2
  obtain ⟨s, rfl, sv⟩ : ∃ s, d2 = .int s ∧ (s = 1 ∨ s = -1) := by
    simp at m2
    rcases m2 with rfl | rfl
    · exact ⟨1, rfl, .inl rfl⟩
    · exact ⟨-1, rfl, .inr rfl⟩
  obtain ⟨h, x4, y4, e4, h0, h1⟩ := great (n := n) (size := size - 1) (by omega) x3 y3
  have ml : mulD (.int g) (.int s) = some (.int (g * s), false) := mul_small (by rcases sv with rfl | rfl <;> decide)
  have b1 : -G ≤ g * s ∧ g * s ≤ G := by rcases sv with rfl | rfl <;> omega
  have bs : (1 + h).natAbs < 2 ^ 599 := Nat.lt_of_lt_of_le (small (i := 1 + h) (Int.le_trans (by decide : -G ≤ 0) (by omega)) (by omega)) (Nat.pow_le_pow_right (by omega) (by omega))
  obtain ⟨t, b, el, rd⟩ := low_rd (t := g * s) (b := 1 + h) (by omega) (by omega) b1.1 b1.2
  have pl := plain (n := n) (t := g * s) (b := 1 + h) (bx := [[x4, y4]]) (by omega) bs
  refine ⟨t, b, x4, y4, ?_, rd⟩
  show runDef fu (C (n + 2)) d22 _ _ = _
  simp [d22, startV, p12, p60, lstD, lim, e1, e2, e3, e4, ml, pl, el]
end K00

set_option exponentiation.threshold 700
namespace K00
open L2 PySem PyProof.Rows PySem.Spec Pv
abbrev lv : Nat := 12
def toldD : List D := [dP (-3) 2, dP 0 1, dP 1 1, dP 5 6, dP (-1) 6, dP (G * G) 1, dP (-1) 2, .bl false, .bl true]
def badsD : List D := [dP (G + 1) 1, dP (-G - 1) 1, dP 1 (G + 1), dP 2 4, dP 0 2, dP 1 0, dP 1 (-2), .lst [.int 1, .int 2],
  .tup [.int 1], .tup [.int 1, .int 2, .int 3], .tup [.bl true, .int 2], .tup [.int 1, .bl true], .non, .int 1, .str "1/2", .tup [.tup [.int 1], .int 2]]
def oddsD : List D := [dP 1 2, dP 0 1, dP G 1, dP 1 G] ++ badsD
theorem mid (s0 s1 s2 s3 s4 : Pv.Slot) (bx : Bx) : (IS.seq i24_3 (.seq i24_4 (.seq i24_5 (.seq i24_6 (.seq i24_7 (.seq i24_8 i24_9)))))).den (V 12) fu [s0, s1, s2, s3, s4, .none, .none, .none, .none, .none, .none, .none, .none] bx =
    .next [s0, s1, s2, s3, s4, .val (.int G), .own (.lst toldD), .own (.lst oddsD), .none, .none, .none, .none, .none] bx := by kernel_rfl
abbrev tailI : IS := .seq i24_11 (.seq i24_12 i24_13)
theorem tail (s0 s1 s2 s3 s4 s6 s7 : Pv.Slot) (bad : D) (hb : bad ∈ badsD) (bx : Bx) : tailI.den (V 12) fu [s0, s1, s2, s3, s4, .val (.int G), s6, s7, .val bad, .val (.lst []), .none, .none, .none] bx = .ret (.bl true) false bx := by
  have h : bad = dP (G + 1) 1 ∨ bad = dP (-G - 1) 1 ∨ bad = dP 1 (G + 1) ∨ bad = dP 2 4 ∨ bad = dP 0 2 ∨ bad = dP 1 0 ∨ bad = dP 1 (-2) ∨ bad = .lst [.int 1, .int 2] ∨
      bad = .tup [.int 1] ∨ bad = .tup [.int 1, .int 2, .int 3] ∨ bad = .tup [.bl true, .int 2] ∨ bad = .tup [.int 1, .bl true] ∨ bad = .non ∨ bad = .int 1 ∨ bad = .str "1/2" ∨ bad = .tup [.tup [.int 1], .int 2] := by
    unfold badsD at hb
    simpa only [List.mem_cons, List.not_mem_nil, or_false] using hb
  rcases h with rfl | rfl | rfl | rfl | rfl | rfl | rfl | rfl | rfl | rfl | rfl | rfl | rfl | rfl | rfl | rfl <;> kernel_rfl
theorem slD (s0 s1 s2 s3 s4 s5 s6 : Pv.Slot) (bx : Bx) : (IE.sl (.var 7) (.some (.con (.int 4))) .none).den (V 12) [s0, s1, s2, s3, s4, s5, s6, .own (.lst oddsD), .none, .none, .none, .none, .none] bx = .ok ⟨.lst badsD, [], .fr, bx⟩ := by kernel_rfl
def Inv (ns : List Int) (vs : Vs) (bx : Bx) : Prop := ∃ t b s3 s4 x y, vs = [.val (.scr ns), .val (.box 0), .val (dP t b), s3, s4, .none, .none, .none, .none, .none, .none, .none, .none] ∧ bx = [[x, y]] ∧ Rd t b
theorem turn (ns : List Int) (d : D) (vs : Vs) (bx : Bx) (h : Inv ns vs bx) : ∃ vs1, (Tgt.nm 3).bind d vs = some vs1 ∧ ∃ vs2 bx2, i24_2B.den (C 12) fu vs1 bx = .next vs2 bx2 ∧ Inv ns vs2 bx2 := by
  obtain ⟨t, b, s3, s4, x, y, rfl, rfl, rd⟩ := h
  obtain ⟨t1, b1, x1, y1, e1, rd1⟩ := portion (n := 9) x y
  have p1 := pair_right (n := 5) (bx := [[x1, y1]]) rd1 rd
  have p2 := pair_right (n := 5) (bx := [[x1, y1]]) rd rd1
  have p3 := pair_right (n := 5) (bx := [[x1, y1]]) rd1 rd1
  refine ⟨[.val (.scr ns), .val (.box 0), .val (dP t b), .val d, s4, .none, .none, .none, .none, .none, .none, .none, .none], rfl,
    [.val (.scr ns), .val (.box 0), .val (dP t1 b1), .val d, .val (dP t1 b1), .none, .none, .none, .none, .none, .none, .none, .none], [[x1, y1]], ?_, ⟨t1, b1, _, _, x1, y1, rfl, rfl, rd1⟩⟩
  simp [i24_2B, e1, p1, p2, p3]
theorem seqI {a b : IS} {c : Fns} {n : Nat} {vs vs1 : Vs} {bx bx1 : Bx} (h : a.den c n vs bx = .next vs1 bx1) : (IS.seq a b).den c n vs bx = b.den c n vs1 bx1 := by
  rw [S_seq, h]; rfl
theorem law_val (ns : List Int) (hl : ns.length ≤ 63) : ∃ bx', fnsAt ((rows ++ rowsH).map (·.1)) fu (lv + 1) 24 [.scr ns] [] = .ok ⟨.bl true, false, bx'⟩ := by
  show ∃ bx', runDef fu (C 12) d24 [.scr ns] [] = _
  obtain ⟨x, y, e0⟩ := cup_ok (c := C) (n := 11) (bx := []) hcup ns hl
  obtain ⟨t, b, x1, y1, e1, rd⟩ := portion (n := 9) x y
  obtain ⟨vs2, bx2, e2, t2, b2, s3, s4, x2, y2, rfl, rfl, rd2⟩ := forL_inv (t := .nm 3) (body := i24_2B.den (C 12) fu) (Inv ns) (rgD 0 10) (fun d _ vs bx h => turn ns d vs bx h)
    [.val (.scr ns), .val (.box 0), .val (dP t b), .none, .none, .none, .none, .none, .none, .none, .none, .none, .none] [[x1, y1]] ⟨t, b, _, _, x1, y1, rfl, rfl, rd⟩
  obtain ⟨bad, x3, y3, e3, m3⟩ := some_ok (n := 10) hroll hsome (xs := badsD) (by unfold badsD; simp) (by decide) x2 y2
  have q0 : i24_0.den (C 12) fu (startV 13 [.scr ns]) [] = .next [.val (.scr ns), .val (.box 0), .none, .none, .none, .none, .none, .none, .none, .none, .none, .none, .none] [[x, y]] := by
    simp [i24_0, startV, e0, intsOf]
  have q1 : i24_1.den (C 12) fu [.val (.scr ns), .val (.box 0), .none, .none, .none, .none, .none, .none, .none, .none, .none, .none, .none] [[x, y]] = .next [.val (.scr ns), .val (.box 0), .val (dP t b), .none, .none, .none, .none, .none, .none, .none, .none, .none, .none] [[x1, y1]] := by
    simp [i24_1, e1]
  have q2 : i24_2.den (C 12) fu [.val (.scr ns), .val (.box 0), .val (dP t b), .none, .none, .none, .none, .none, .none, .none, .none, .none, .none] [[x1, y1]] =
      .next [.val (.scr ns), .val (.box 0), .val (dP t2 b2), s3, s4, .none, .none, .none, .none, .none, .none, .none, .none] [[x2, y2]] := by
    simp [i24_2, i24_2S, e2]
  have q3 := mid (.val (.scr ns)) (.val (.box 0)) (.val (dP t2 b2)) s3 s4 [[x2, y2]]
  rw [← cv] at q3
  have sl := slD (.val (.scr ns)) (.val (.box 0)) (.val (dP t2 b2)) s3 s4 (.val (.int G)) (.own (.lst toldD)) [[x2, y2]]
  rw [← cv] at sl
  have q4 : i24_10.den (C 12) fu [.val (.scr ns), .val (.box 0), .val (dP t2 b2), s3, s4, .val (.int G), .own (.lst toldD), .own (.lst oddsD), .none, .none, .none, .none, .none] [[x2, y2]] =
      .next [.val (.scr ns), .val (.box 0), .val (dP t2 b2), s3, s4, .val (.int G), .own (.lst toldD), .own (.lst oddsD), .val bad, .val (.lst []), .none, .none, .none] [[x3, y3]] := by
    have slE : evSl (IE.var 7).den (some (IE.con (.int 4)).den) none (C 12) [.val (.scr ns), .val (.box 0), .val (dP t2 b2), s3, s4, .val (.int G), .own (.lst toldD), .own (.lst oddsD), .none, .none, .none, .none, .none] [[x2, y2]] = .ok ⟨.lst badsD, [], .fr, [[x2, y2]]⟩ := sl
    simp [i24_10, slE, e3, lstD, tupD, lim]
    rfl
  have q5 := tail (.val (.scr ns)) (.val (.box 0)) (.val (dP t2 b2)) s3 s4 (.own (.lst toldD)) (.own (.lst oddsD)) bad m3 [[x3, y3]]
  rw [← cv] at q5
  refine ⟨[[x3, y3]], ?_⟩
  have run : d24.body.den (C 12) fu (startV 13 [.scr ns]) [] = .ret (.bl true) false [[x3, y3]] := by
    show (IS.seq i24_0 (.seq i24_1 (.seq i24_2 (.seq i24_3 (.seq i24_4 (.seq i24_5 (.seq i24_6 (.seq i24_7 (.seq i24_8 (.seq i24_9 (.seq i24_10 tailI))))))))))).den (C 12) fu (startV 13 [.scr ns]) [] = _
    rw [seqI q0, seqI q1, seqI q2]
    have asc : ∀ (r : IS) vs bx, (IS.seq i24_3 (.seq i24_4 (.seq i24_5 (.seq i24_6 (.seq i24_7 (.seq i24_8 (.seq i24_9 r))))))).den (C 12) fu vs bx = ((IS.seq i24_3 (.seq i24_4 (.seq i24_5 (.seq i24_6 (.seq i24_7 (.seq i24_8 i24_9)))))).den (C 12) fu vs bx).bind fun vs1 bx1 => r.den (C 12) fu vs1 bx1 := by
      intro r vs bx
      have bb : ∀ (o : Out) (f g : Vs → Bx → Out), (o.bind f).bind g = o.bind fun v b => (f v b).bind g := by
        intro o f g; cases o <;> rfl
      simp only [S_seq, bb]
    rw [asc, q3, bind_next, seqI q4, q5]
  show (if [D.scr ns].length = d24.ps.length then (d24.body.den (C 12) fu (startV d24.N.length [.scr ns]) []).res else .stuck) = _
  rw [if_pos (show [D.scr ns].length = d24.ps.length from rfl), show d24.N.length = 13 from rfl, run]
  rfl
end K00

open PySem PySem.W PySem.Calls PyProof.Rows
theorem PySem.Challenge.cw_walledbodies_k00_whole_portions_holds : PySem.Challenge.rw_walledbodies_k00_whole_portions.Holds := by
  w_on; o_law
  refine HandSHeadRun.head_imp (r := K00.R) (q := view K00.R.prog [0, 35]) (H := K00.hk) (ob := K00.ob)
    (M := 6000) (loose := K00.loose) (d := HandSHeadRun.topDef K00.R.prog 35) (kwd := []) K00.ob_eq
    K00.run (by kernel_rfl) (by kernel_rfl) (by kernel_rfl) (by rfl)
    (by first | assumption | decide +kernel) (by decide +kernel) ⟨rfl, rfl, rfl, rfl, rfl, by decide +kernel⟩ ?hw ?hc
  case hw => w_witness2
  case hc =>
    refine LamX.walk_ofTsE (l := PySem.Challenge.rw_walledbodies_k00_whole_portions) (n := 63) (k := 3 * K00.lv + 4) (x := "script")
      (CX := fun _ => L2.CX0) rfl (by decide) (by kernel_rfl) ⟨rfl, by decide, by decide⟩ ?F (fun _ _ _ _ _ z => z)
    intro w mg fa h Y G hmg0
    obtain ⟨K, KX, c⟩ := Y
    have hmg : mg ("law" : PySem.Str) = some (.ref fa) := by
      have e : (HandSHeadRun.topDef K00.R.prog 35).name = ("law" : PySem.Str) := by kernel_rfl
      rw [← e]
      exact hmg0
    exact ⟨K, KX, Pv.law_all (l0 := PySem.Challenge.rw_walledbodies_k00_whole_portions) (w := w) KX G c K00.call K00.hall rfl rfl rfl rfl
      (fu := K00.fu) (n := K00.lv) (i := 24) rfl rfl hmg K00.law_val⟩

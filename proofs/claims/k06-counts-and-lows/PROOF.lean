import PyProof.Rows.All
import Wide.All
import OpenK.AllK
import Wide.FinOn
import KE.KStateDown
import HandS.ForMost
import HandS.Exc
import HandS.TryOnly
import HandS.ExcOwn
import HandS.Defaults
import HandS.Head0
import HandS.Head1
import HandS.Head2
import HandS.HeadEnd
import HandS.HeadHook1
import HandS.HeadHook2
import HandS.TupAny
import HandS.Conv
import HandS.WideBits
import HandS.Wide
import HandS.Deep
import HandS.Style
import PyProof.ReprRoads
import HandS.Zip
import HandS.Rev
import KE.GoesZip
import KE.GoesMore
import KE.GoesNew
import KE.KDictZip
import KE.GoesEnum
import HandS.RevTup
import HandS.IsInst
import HandS.SortInts
import HandS.SetFor
import HandS.Iter
import PySem.Challenge.RW_onelowcorner_k06_whole_counts_and_lows
set_option Elab.async false
set_option linter.all false
set_option maxRecDepth 100000
set_option maxHeartbeats 4000000
/-! PL: the data layer. A def of the text against a plain Lean function over data. -/
namespace PL
open PySem PySem.Spec PyProof.Rows L2

abbrev D := PyData
abbrev St := L2.St
/-- the bag of draws: cells still to come, digits of the present one, a mixed number -/
structure Bg where
  cells : List Int
  cur : Int
  mix : Int
  scr : Bool := false
/-- an exception by its class's name, with at most one argument -/
structure Xn where
  cls : Str
  arg : Option D
/-- the names' data: nothing known; (owned, data) -/
abbrev SE := List (Option (Bool × D))
inductive Out (α : Type) where
  | stuck
  | ok (a : α) (e : SE) (b : Bg)
  | exc (x : Xn) (e : SE) (b : Bg)
def M (α : Type) := SE → Bg → Out α
namespace M
def ret {α : Type} (a : α) : M α := fun e b => .ok a e b
def bind {α β : Type} (m : M α) (k : α → M β) : M β := fun e b => match m e b with
  | .stuck => .stuck
  | .ok a e' b' => k a e' b'
  | .exc x e' b' => .exc x e' b'
instance : Monad M where
  pure := ret
  bind := bind
end M
def stk {α : Type} : M α := fun _ _ => .stuck
def opt {α : Type} (o : Option α) : M α := fun e b => match o with
  | some a => .ok a e b
  | none => .stuck
def guard' (c : Bool) : M Unit := fun e b => if c then .ok () e b else .stuck

/-- stands for the bag among the data: no dict of Python -/
def bagD : D := .dict [(.list [], .none)]
def keyD : Key → D
  | .inl i => .int i
  | .inr x => .str x

/-! ### data in the heap: F the frozen addresses -/
mutual
inductive Rep (β : Addr) (F : Addr → Prop) (H : Hp) : V → D → Prop
  | non : Rep β F H .non .none
  | bl (b : Bool) : Rep β F H (.bl b) (.bool b)
  | int (i : Int) : Rep β F H (.int i) (.int i)
  | str (x : Str) : Rep β F H (.str x) (.str x)
  | lst {a : Addr} {xs : List V} {ds : List D} : F a → H a = some (.lst xs) → Reps β F H xs ds → Rep β F H (.ref a) (.list ds)
  | tup {a : Addr} {xs : List V} {ds : List D} : F a → H a = some (.tup xs) → Reps β F H xs ds → Rep β F H (.ref a) (.tuple ds)
  | dK {a : Addr} {kvs : List (Key × V)} {ds : List (D × D)} : F a → H a = some (.dK kvs) → RepK β F H kvs ds → Rep β F H (.ref a) (.dict ds)
  | bag : Rep β F H (.ref β) bagD
inductive Reps (β : Addr) (F : Addr → Prop) (H : Hp) : List V → List D → Prop
  | nil : Reps β F H [] []
  | cons {v : V} {vs : List V} {d : D} {ds : List D} : Rep β F H v d → Reps β F H vs ds → Reps β F H (v :: vs) (d :: ds)
inductive RepK (β : Addr) (F : Addr → Prop) (H : Hp) : List (Key × V) → List (D × D) → Prop
  | nil : RepK β F H [] []
  | cons {k : Key} {v : V} {kvs : List (Key × V)} {d : D} {ds : List (D × D)} : Rep β F H v d → RepK β F H kvs ds → RepK β F H ((k, v) :: kvs) ((keyD k, d) :: ds)
end
/-- frozen stays frozen, and as it is -/
def Le (F : Addr → Prop) (H : Hp) (F' : Addr → Prop) (H' : Hp) : Prop := ∀ a, F a → F' a ∧ H' a = H a
section
variable {β : Addr} {F F' F'' : Addr → Prop} {H H' H'' : Hp}
theorem Le.refl : Le F H F H := fun _ h => ⟨h, rfl⟩
theorem Le.trans (h : Le F H F' H') (k : Le F' H' F'' H'') : Le F H F'' H'' := fun a q => ⟨(k a (h a q).1).1, ((k a (h a q).1).2).trans (h a q).2⟩
mutual
theorem Rep.mono (l : Le F H F' H') : ∀ {v : V} {d : D}, Rep β F H v d → Rep β F' H' v d
  | _, _, .non => .non
  | _, _, .bl b => .bl b
  | _, _, .int i => .int i
  | _, _, .str x => .str x
  | _, _, .lst f h r => .lst (l _ f).1 ((l _ f).2.trans h) (Reps.mono l r)
  | _, _, .tup f h r => .tup (l _ f).1 ((l _ f).2.trans h) (Reps.mono l r)
  | _, _, .dK f h r => .dK (l _ f).1 ((l _ f).2.trans h) (RepK.mono l r)
  | _, _, .bag => .bag
theorem Reps.mono (l : Le F H F' H') : ∀ {v : List V} {d : List D}, Reps β F H v d → Reps β F' H' v d
  | _, _, .nil => .nil
  | _, _, .cons r q => .cons (Rep.mono l r) (Reps.mono l q)
theorem RepK.mono (l : Le F H F' H') : ∀ {v : List (Key × V)} {d : List (D × D)}, RepK β F H v d → RepK β F' H' v d
  | _, _, .nil => .nil
  | _, _, .cons r q => .cons (Rep.mono l r) (RepK.mono l q)
end
theorem Reps.len : ∀ {v : List V} {d : List D}, Reps β F H v d → v.length = d.length
  | _, _, .nil => rfl
  | _, _, .cons _ q => congrArg Nat.succ q.len
theorem Reps.get : ∀ {v : List V} {d : List D} {i : Nat} {x : D}, Reps β F H v d → d[i]? = some x → ∃ y, v[i]? = some y ∧ Rep β F H y x
  | _, _, _, _, .nil, e => by simp at e
  | _, _, 0, _, .cons r _, e => by simp at e; subst e; exact ⟨_, rfl, r⟩
  | _, _, i + 1, x, .cons _ t, e => by
    obtain ⟨u, h1, h2⟩ := Reps.get (i := i) (x := x) t (by simpa using e)
    exact ⟨u, by simpa using h1, h2⟩
theorem Reps.getV : ∀ {v : List V} {d : List D} {i : Nat} {y : V}, Reps β F H v d → v[i]? = some y → ∃ x, d[i]? = some x ∧ Rep β F H y x
  | _, _, _, _, .nil, e => by simp at e
  | _, _, 0, _, .cons r _, e => by simp at e; subst e; exact ⟨_, rfl, r⟩
  | _, _, i + 1, x, .cons _ t, e => by
    obtain ⟨u, h1, h2⟩ := Reps.getV (i := i) (y := x) t (by simpa using e)
    exact ⟨u, by simpa using h1, h2⟩
theorem Reps.append : ∀ {v v' : List V} {d d' : List D}, Reps β F H v d → Reps β F H v' d' → Reps β F H (v ++ v') (d ++ d')
  | _, _, _, _, .nil, q => q
  | _, _, _, _, .cons r t, q => .cons r (t.append q)
theorem Reps.drop : ∀ (n : Nat) {v : List V} {d : List D}, Reps β F H v d → Reps β F H (v.drop n) (d.drop n)
  | 0, _, _, q => q
  | _ + 1, _, _, .nil => .nil
  | n + 1, _, _, .cons _ t => Reps.drop n t
theorem Reps.take : ∀ (n : Nat) {v : List V} {d : List D}, Reps β F H v d → Reps β F H (v.take n) (d.take n)
  | 0, _, _, _ => .nil
  | _ + 1, _, _, .nil => .nil
  | n + 1, _, _, .cons r t => .cons r (Reps.take n t)
theorem Reps.set {y : V} {x : D} (r : Rep β F H y x) : ∀ (n : Nat) {v : List V} {d : List D}, Reps β F H v d → Reps β F H (v.set n y) (d.set n x)
  | _, _, _, .nil => .nil
  | 0, _, _, .cons _ t => .cons r t
  | n + 1, _, _, .cons q t => .cons q (Reps.set r n t)
theorem Reps.erase : ∀ (n : Nat) {v : List V} {d : List D}, Reps β F H v d → Reps β F H (v.eraseIdx n) (d.eraseIdx n)
  | _, _, _, .nil => .nil
  | 0, _, _, .cons _ t => t
  | n + 1, _, _, .cons q t => .cons q (Reps.erase n t)
theorem Reps.dropLast : ∀ {v : List V} {d : List D}, Reps β F H v d → Reps β F H v.dropLast d.dropLast
  | _, _, .nil => .nil
  | _, _, .cons _ .nil => .nil
  | _, _, .cons q (.cons r t) => .cons q (Reps.dropLast (.cons r t))
theorem Reps.reverse : ∀ {v : List V} {d : List D}, Reps β F H v d → Reps β F H v.reverse d.reverse
  | _, _, .nil => .nil
  | _, _, .cons q t => by
    rw [List.reverse_cons, List.reverse_cons]
    exact t.reverse.append (.cons q .nil)
theorem Reps.rep {v : List V} {d : List D} (h : Reps β F H v d) : ∀ k : Nat, Reps β F H (List.replicate k v).flatten (List.replicate k d).flatten
  | 0 => .nil
  | k + 1 => by
    rw [List.replicate_succ, List.replicate_succ, List.flatten_cons, List.flatten_cons]
    exact h.append (Reps.rep h k)
end
/-- the bag's two lists; or the script, ahead of the bag's making -/
structure BagOk (β γ : Addr) (H : Hp) (b : Bg) : Prop where
  th : H β ≠ none ∧ H γ ≠ none
  on : b.scr = false → β ≠ γ ∧ H β = some (.lst [.ref γ, .int b.cur, .int b.mix]) ∧ H γ = some (.lst (b.cells.map V.int))
  sc : b.scr = true → H β = some (.lst (b.cells.map V.int)) ∨ ∃ o, H β = some (.frz o (.lst (b.cells.map V.int)))
theorem BagOk.at {β γ : Addr} {H H' : Hp} {b : Bg} (o : BagOk β γ H b) (e1 : H' β = H β) (e2 : H' γ = H γ) : BagOk β γ H' b where
  th := by rw [e1, e2]; exact o.th
  on := fun h => by rw [e1, e2]; exact o.on h
  sc := fun h => by rw [e1]; exact o.sc h

/-- the constants of a run of a def: the entry's heap and frozen addresses; the bag's addresses; what is wished of an exception, how one lies -/
structure Lo where
  K : PySem.W.Frag
  β : Addr
  γ : Addr
  H0 : Hp
  F0 : Addr → Prop
  exr : Xn → Value → Option Addr → Hp → Prop

/-- an object with its top not frozen -/
def Top (β : Addr) (F : Addr → Prop) (H : Hp) (a : Addr) : D → Prop
  | .list ds => ∃ xs, H a = some (.lst xs) ∧ Reps β F H xs ds
  | .dict ds => ∃ kvs, H a = some (.dK kvs) ∧ RepK β F H kvs ds
  | _ => False
structure Own (L : Lo) (F : Addr → Prop) (H : Hp) (a : Addr) (d : D) : Prop where
  nf : ¬ F a
  nb : a ≠ L.β
  nc : a ≠ L.γ
  new : L.H0 a = none
  top : Top L.β F H a d
structure EO (L : Lo) (F : Addr → Prop) (H : Hp) (σ : St) (en : SE) (b : Bg) : Prop where
  fh : ∀ a, F a → H a ≠ none ∧ a ≠ L.β ∧ a ≠ L.γ
  ent : ∀ a, L.H0 a ≠ none → a ≠ L.β → a ≠ L.γ → H a = L.H0 a
  f0 : ∀ a, L.F0 a → F a
  fn : ∀ a, F a → L.F0 a ∨ L.H0 a = none
  len : en.length = σ.length
  sl : ∀ (i : Nat) d, en[i]? = some (some (false, d)) → ∃ v, σ[i]? = some (some v) ∧ Rep L.β F H v d
  ow : ∀ (i : Nat) d, en[i]? = some (some (true, d)) → ∃ a, σ[i]? = some (some (V.ref a)) ∧ Own L F H a d
  di : ∀ (i j : Nat) d d' a, i ≠ j → en[i]? = some (some (true, d)) → en[j]? = some (some (true, d')) → σ[i]? = some (some (V.ref a)) → σ[j]? ≠ some (some (V.ref a))
  bg : BagOk L.β L.γ H b
/-- a result: frozen, or a new object that no name holds -/
def ResOk (L : Lo) (F : Addr → Prop) (H : Hp) (σ : St) (en : SE) (v : V) : Bool × D → Prop
  | (false, d) => Rep L.β F H v d
  | (true, d) => ∃ a, v = .ref a ∧ Own L F H a d ∧ ∀ (i : Nat) d', en[i]? = some (some (true, d')) → σ[i]? ≠ some (some (V.ref a))
section
variable {L : Lo} {F : Addr → Prop} {H : Hp} {σ : St} {en : SE} {b : Bg}
theorem Own.there {a : Addr} {d : D} (o : Own L F H a d) : H a ≠ none := by
  have t := o.top
  cases d with
  | list ds => obtain ⟨xs, h, _⟩ := t; rw [h]; simp
  | dict ds => obtain ⟨xs, h, _⟩ := t; rw [h]; simp
  | _ => exact t.elim
theorem Top.mono {β : Addr} {F' : Addr → Prop} {H' : Hp} {a : Addr} (l : Le F H F' H') (e : H' a = H a) : ∀ {d : D}, Top β F H a d → Top β F' H' a d
  | .list _, ⟨xs, h, r⟩ => ⟨xs, e.trans h, r.mono l⟩
  | .dict _, ⟨xs, h, r⟩ => ⟨xs, e.trans h, r.mono l⟩
theorem EO.b0 (o : EO L F H σ en b) : H L.β ≠ none := o.bg.th.1
theorem EO.c0 (o : EO L F H σ en b) : H L.γ ≠ none := o.bg.th.2
/-- new: not tracked so far -/
theorem EO.new0 (o : EO L F H σ en b) {p : Addr} (hp : H p = none) : L.H0 p = none ∧ ¬ F p ∧ p ≠ L.β ∧ p ≠ L.γ := by
  have nb : p ≠ L.β := fun e => o.b0 (e ▸ hp)
  have nc : p ≠ L.γ := fun e => o.c0 (e ▸ hp)
  refine ⟨?_, fun f => (o.fh p f).1 hp, nb, nc⟩
  cases e : L.H0 p with
  | none => rfl
  | some u =>
    have q := o.ent p (by rw [e]; simp) nb nc
    rw [hp, e] at q
    cases q
/-- the heap grows: all that was tracked is as it was -/
def Gr (H H' : Hp) : Prop := ∀ a, H a ≠ none → H' a = H a
theorem Gr.le {H' : Hp} (o : EO L F H σ en b) (g : Gr H H') : Le F H F H' := fun a f => ⟨f, g a (o.fh a f).1⟩
theorem EO.grow {H' : Hp} (o : EO L F H σ en b) (g : Gr H H') : EO L F H' σ en b where
  fh := fun a f => ⟨by rw [g a (o.fh a f).1]; exact (o.fh a f).1, (o.fh a f).2⟩
  ent := fun a h n1 n2 => by
    have e := o.ent a h n1 n2
    rw [g a (by rw [e]; exact h), e]
  f0 := o.f0
  fn := o.fn
  len := o.len
  sl := fun i d h => by
    obtain ⟨v, h1, h2⟩ := o.sl i d h
    exact ⟨v, h1, h2.mono (Gr.le o g)⟩
  ow := fun i d h => by
    obtain ⟨a, h1, h2⟩ := o.ow i d h
    exact ⟨a, h1, h2.nf, h2.nb, h2.nc, h2.new, h2.top.mono (Gr.le o g) (g a h2.there)⟩
  di := o.di
  bg := o.bg.at (g _ o.b0) (g _ o.c0)
theorem gr_upd {p : Addr} {u : HO} (hp : H p = none) : Gr H (upd H p u) := fun a h => upd_ne fun e => h (e ▸ hp)
/-- a new object, made -/
theorem EO.made (o : EO L F H σ en b) {p : Addr} {u : HO} {d : D} (hp : H p = none) (t : Top L.β F (upd H p u) p d) :
    EO L F (upd H p u) σ en b ∧ ResOk L F (upd H p u) σ en (.ref p) (true, d) := by
  obtain ⟨n1, n2, n3, n4⟩ := o.new0 hp
  refine ⟨o.grow (gr_upd hp), p, rfl, ⟨n2, n3, n4, n1, t⟩, fun i d' h q => ?_⟩
  obtain ⟨a, h1, h2⟩ := o.ow i d' h
  rw [h1] at q
  cases q
  exact h2.there hp
/-- an address is frozen -/
def frz1 (F : Addr → Prop) (a : Addr) : Addr → Prop := fun b => F b ∨ b = a
theorem le_frz {a : Addr} : Le F H (frz1 F a) H := fun _ f => ⟨.inl f, rfl⟩
theorem Top.rep {β a : Addr} {d : D} (t : Top β F H a d) : Rep β (frz1 F a) H (.ref a) d := by
  cases d with
  | list ds => obtain ⟨xs, h, r⟩ := t; exact .lst (.inr rfl) h (r.mono le_frz)
  | dict ds => obtain ⟨xs, h, r⟩ := t; exact .dK (.inr rfl) h (r.mono le_frz)
  | _ => exact t.elim
theorem EO.frz (o : EO L F H σ en b) {a : Addr} {d : D} (w : Own L F H a d) (n : ∀ (i : Nat) d', en[i]? = some (some (true, d')) → σ[i]? ≠ some (some (V.ref a))) : EO L (frz1 F a) H σ en b where
  fh := fun c f => by
    rcases f with f | rfl
    · exact o.fh c f
    · exact ⟨w.there, w.nb, w.nc⟩
  ent := o.ent
  f0 := fun c f => .inl (o.f0 c f)
  fn := fun c f => by
    rcases f with f | rfl
    · exact o.fn c f
    · exact .inr w.new
  len := o.len
  sl := fun i d' h => by
    obtain ⟨v, h1, h2⟩ := o.sl i d' h
    exact ⟨v, h1, h2.mono le_frz⟩
  ow := fun i d' h => by
    obtain ⟨c, h1, h2⟩ := o.ow i d' h
    refine ⟨c, h1, fun f => ?_, h2.nb, h2.nc, h2.new, h2.top.mono le_frz rfl⟩
    rcases f with f | rfl
    · exact h2.nf f
    · exact n i d' h h1
  di := o.di
  bg := o.bg
/-- the i-th name's list is frozen -/
theorem EO.frzAt (o : EO L F H σ en b) {i : Nat} {d : D} (h : en[i]? = some (some (true, d))) :
    ∃ a, σ[i]? = some (some (V.ref a)) ∧ Rep L.β (frz1 F a) H (.ref a) d ∧ EO L (frz1 F a) H σ (en.set i (some (false, d))) b := by
  obtain ⟨a, h1, w⟩ := o.ow i d h
  have hi : i < en.length := (List.getElem?_eq_some_iff.mp h).1
  have o1 : EO L F H σ (en.set i (some (false, d))) b → False ∨ True := fun _ => .inr trivial
  refine ⟨a, h1, w.top.rep, ?_⟩
  have get : ∀ (j : Nat) x, (en.set i (some (false, d)))[j]? = some x → (j = i ∧ x = some (false, d)) ∨ (j ≠ i ∧ en[j]? = some x) := fun j x e => by
    by_cases hj : j = i
    · subst hj
      rw [List.getElem?_set_self hi] at e
      exact .inl ⟨rfl, (Option.some.inj e).symm⟩
    · rw [List.getElem?_set_ne (Ne.symm hj)] at e
      exact .inr ⟨hj, e⟩
  refine ⟨fun c f => ?_, o.ent, fun c f => .inl (o.f0 c f), fun c f => ?_, by rw [List.length_set]; exact o.len, fun j d' e => ?_, fun j d' e => ?_, fun j k d1 d2 c hjk e1 e2 => ?_, o.bg⟩
  · rcases f with f | rfl
    · exact o.fh c f
    · exact ⟨w.there, w.nb, w.nc⟩
  · rcases f with f | rfl
    · exact o.fn c f
    · exact .inr w.new
  · rcases get j _ e with ⟨rfl, q⟩ | ⟨_, q⟩
    · cases q
      exact ⟨_, h1, w.top.rep⟩
    · obtain ⟨v, k1, k2⟩ := o.sl j d' q
      exact ⟨v, k1, k2.mono le_frz⟩
  · rcases get j _ e with ⟨rfl, q⟩ | ⟨hj, q⟩
    · cases q
    · obtain ⟨c, k1, k2⟩ := o.ow j d' q
      refine ⟨c, k1, fun f => ?_, k2.nb, k2.nc, k2.new, k2.top.mono le_frz rfl⟩
      rcases f with f | rfl
      · exact k2.nf f
      · exact o.di j i d' d c hj q h k1 h1
  · rcases get j _ e1 with ⟨rfl, q⟩ | ⟨hj, q⟩
    · cases q
    · rcases get k _ e2 with ⟨rfl, q2⟩ | ⟨hk, q2⟩
      · cases q2
      · exact o.di j k d1 d2 c hjk q q2
/-- a result is frozen -/
theorem EO.frzRes (o : EO L F H σ en b) {v : V} {fr : Bool} {d : D} (r : ResOk L F H σ en v (fr, d)) : ∃ F', Le F H F' H ∧ EO L F' H σ en b ∧ Rep L.β F' H v d := by
  cases fr with
  | false => exact ⟨F, Le.refl, o, r⟩
  | true =>
    obtain ⟨a, rfl, w, n⟩ := r
    exact ⟨frz1 F a, le_frz, o.frz w n, w.top.rep⟩
/-- the i-th name is bound to a result -/
theorem EO.bind (o : EO L F H σ en b) {v : V} {r : Bool × D} (q : ResOk L F H σ en v r) {i : Nat} (hi : i < en.length) : EO L F H (σ.set i (some v)) (en.set i (some r)) b := by
  have his : i < σ.length := by rw [← o.len]; exact hi
  have get : ∀ (j : Nat) x, (en.set i (some r))[j]? = some x → (j = i ∧ x = some r) ∨ (j ≠ i ∧ en[j]? = some x) := fun j x e => by
    by_cases hj : j = i
    · subst hj
      rw [List.getElem?_set_self hi] at e
      exact .inl ⟨rfl, (Option.some.inj e).symm⟩
    · rw [List.getElem?_set_ne (Ne.symm hj)] at e
      exact .inr ⟨hj, e⟩
  have at_ : (σ.set i (some v))[i]? = some (some v) := List.getElem?_set_self his
  have off : ∀ {j : Nat}, j ≠ i → (σ.set i (some v))[j]? = σ[j]? := fun hj => List.getElem?_set_ne (Ne.symm hj)
  refine ⟨o.fh, o.ent, o.f0, o.fn, by rw [List.length_set, List.length_set]; exact o.len, fun j d' e => ?_, fun j d' e => ?_, fun j k d1 d2 c hjk e1 e2 k1 k2 => ?_, o.bg⟩
  · rcases get j _ e with ⟨rfl, z⟩ | ⟨hj, z⟩
    · cases z
      exact ⟨v, at_, q⟩
    · rw [off hj]
      exact o.sl j d' z
  · rcases get j _ e with ⟨rfl, z⟩ | ⟨hj, z⟩
    · cases z
      obtain ⟨a, rfl, w, n⟩ := q
      exact ⟨a, at_, w⟩
    · rw [off hj]
      exact o.ow j d' z
  · rcases get j _ e1 with ⟨rfl, z1⟩ | ⟨hj, z1⟩
    · cases z1
      obtain ⟨a, rfl, w, n⟩ := q
      rcases get k _ e2 with ⟨rfl, z2⟩ | ⟨hk, z2⟩
      · exact hjk rfl
      · rw [at_] at k1
        rw [off hk] at k2
        cases k1
        exact n k d2 z2 k2
    · rw [off hj] at k1
      rcases get k _ e2 with ⟨rfl, z2⟩ | ⟨hk, z2⟩
      · cases z2
        obtain ⟨a, rfl, w, n⟩ := q
        rw [at_] at k2
        cases k2
        exact n j d1 z1 k1
      · rw [off hk] at k2
        exact o.di j k d1 d2 c hjk z1 z2 k1 k2
end
/-- a name owns the address -/
def Ow (σ : St) (en : SE) (a : Addr) : Prop := ∃ (i : Nat) (d : D), en[i]? = some (some (true, d)) ∧ σ[i]? = some (some (V.ref a))
/-- a step of an expression: what is neither the bag's nor owned by a name stays -/
structure Stp (L : Lo) (σ : St) (F : Addr → Prop) (H : Hp) (en : SE) (F' : Addr → Prop) (H' : Hp) (en' : SE) : Prop where
  le : Le F H F' H'
  oth : ∀ a, H a ≠ none → a ≠ L.β → a ≠ L.γ → ¬ Ow σ en a → H' a = H a
  new : ∀ a, F' a → F a ∨ Ow σ en a ∨ H a = none
  own : ∀ a, Ow σ en' a → Ow σ en a
  th : ∀ a, H a ≠ none → H' a ≠ none
section
variable {L : Lo} {σ : St} {F F' F'' : Addr → Prop} {H H' H'' : Hp} {en en' en'' : SE} {b : Bg}
theorem Stp.refl : Stp L σ F H en F H en := ⟨Le.refl, fun _ _ _ _ _ => rfl, fun _ f => .inl f, fun _ o => o, fun _ h => h⟩
theorem Stp.trans (s : Stp L σ F H en F' H' en') (t : Stp L σ F' H' en' F'' H'' en'') : Stp L σ F H en F'' H'' en'' where
  le := s.le.trans t.le
  oth := fun a h n1 n2 n3 => (t.oth a (s.th a h) n1 n2 fun o => n3 (s.own a o)).trans (s.oth a h n1 n2 n3)
  new := fun a f => by
    rcases t.new a f with f | o | n
    · exact s.new a f
    · exact .inr (.inl (s.own a o))
    · by_cases h : H a = none
      · exact .inr (.inr h)
      · exact absurd n (s.th a h)
  own := fun a o => s.own a (t.own a o)
  th := fun a h => t.th a (s.th a h)
theorem Stp.grow (o : EO L F H σ en b) (g : Gr H H') : Stp L σ F H en F H' en :=
  ⟨Gr.le o g, fun a h _ _ _ => g a h, fun _ f => .inl f, fun _ o => o, fun a h => by rw [g a h]; exact h⟩
/-- a result that is new: no name had it, and nothing stood there ahead -/
def ResNew (H : Hp) (v : V) (r : Bool × D) : Prop := r.1 = true → ∀ a, v = .ref a → H a = none
theorem ResNew.back {v : V} {r : Bool × D} (n : ResNew H' v r) (s : Stp L σ F H en F' H' en') : ResNew H v r := fun z a e => by
  by_cases h0 : H a = none
  · exact h0
  · exact absurd (n z a e) (s.th a h0)
theorem Stp.frzNew {a : Addr} (hn : H a = none) (s : Stp L σ F H en F' H' en') : Stp L σ F H en (frz1 F' a) H' en' :=
  ⟨fun c f => ⟨.inl (s.le c f).1, (s.le c f).2⟩, s.oth, fun c f => by
    rcases f with f | rfl
    · exact s.new c f
    · exact .inr (.inr hn), s.own, s.th⟩
theorem Stp.frzAt {i : Nat} {d : D} {a : Addr} (h : en[i]? = some (some (true, d))) (h1 : σ[i]? = some (some (V.ref a))) : Stp L σ F H en (frz1 F a) H (en.set i (some (false, d))) :=
  ⟨le_frz, fun _ _ _ _ _ => rfl, fun c f => by
    rcases f with f | rfl
    · exact .inl f
    · exact .inr (.inl ⟨i, d, h, h1⟩), fun c ⟨j, d', q1, q2⟩ => by
    by_cases hj : j = i
    · subst hj
      rw [List.getElem?_set_self (List.getElem?_eq_some_iff.mp h).1] at q1
      cases q1
    · rw [List.getElem?_set_ne (Ne.symm hj)] at q1
      exact ⟨j, d', q1, q2⟩, fun _ h => h⟩
end
end PL
namespace PL
open PySem PySem.Spec PyProof.Rows L2

/-! ### readings -/
def tX (L : Lo) (W : WX) (f : M (Bool × D)) : TE := fun σ H Q => ∃ F en b, EO L F H σ en b ∧ match f en b with
  | .stuck => False
  | .ok r en' b' => ∀ v F' H', Stp L σ F H en F' H' en' → EO L F' H' σ en' b' → ResOk L F' H' σ en' v r → ResNew H v r → Q v H'
  | .exc x en' b' => ∀ F' H' cls dd, Le F H F' H' → EO L F' H' σ en' b' → L.exr x cls dd H' → W cls dd σ H'
def tD (L : Lo) (W : WX) (f : M D) : TE := fun σ H Q => ∃ F en b, EO L F H σ en b ∧ match f en b with
  | .stuck => False
  | .ok r en' b' => ∀ v F' H', Stp L σ F H en F' H' en' → EO L F' H' σ en' b' → Rep L.β F' H' v r → Q v H'
  | .exc x en' b' => ∀ F' H' cls dd, Le F H F' H' → EO L F' H' σ en' b' → L.exr x cls dd H' → W cls dd σ H'
/-- data whose top may stand at a name, not frozen -/
def Pk (L : Lo) (F : Addr → Prop) (H : Hp) (σ : St) (en : SE) (v : V) (d : D) : Prop :=
  Rep L.β F H v d ∨ ∃ (i : Nat) (a : Addr), v = .ref a ∧ en[i]? = some (some (true, d)) ∧ σ[i]? = some (some (V.ref a)) ∧ Top L.β F H a d
def tP (L : Lo) (W : WX) (f : M D) : TE := fun σ H Q => ∃ F en b, EO L F H σ en b ∧ match f en b with
  | .stuck => False
  | .ok r en' b' => ∀ v F' H', Stp L σ F H en F' H' en' → EO L F' H' σ en' b' → Pk L F' H' σ en' v r → Q v H'
  | .exc x en' b' => ∀ F' H' cls dd, Le F H F' H' → EO L F' H' σ en' b' → L.exr x cls dd H' → W cls dd σ H'
def tB (L : Lo) (W : WX) (f : M Bool) : TT := fun σ H Q => ∃ F en b, EO L F H σ en b ∧ match f en b with
  | .stuck => False
  | .ok r en' b' => ∀ F' H', Stp L σ F H en F' H' en' → EO L F' H' σ en' b' → Q r H'
  | .exc x en' b' => ∀ F' H' cls dd, Le F H F' H' → EO L F' H' σ en' b' → L.exr x cls dd H' → W cls dd σ H'
def tA (L : Lo) (W : WX) (f : M (List D)) : TA := fun σ H Q => ∃ F en b, EO L F H σ en b ∧ match f en b with
  | .stuck => False
  | .ok r en' b' => ∀ vs F' H', Stp L σ F H en F' H' en' → EO L F' H' σ en' b' → Reps L.β F' H' vs r → Q vs H'
  | .exc x en' b' => ∀ F' H' cls dd, Le F H F' H' → EO L F' H' σ en' b' → L.exr x cls dd H' → W cls dd σ H'
/-- how a statement ends -/
inductive Fl where
  | nx | brk | ct
  | rt (r : Bool × D)
def FlOk (L : Lo) (Dn : Ends) (F : Addr → Prop) (H : Hp) (σ : St) (en : SE) : Fl → Prop
  | .nx => Dn.nx σ H
  | .brk => Dn.bk σ H
  | .ct => Dn.ct σ H
  | .rt r => ∀ v, ResOk L F H σ en v r → Dn.rt v H
/-- what is wanted behind a statement's outcome -/
def PoS (L : Lo) (W : WX) (Dn : Ends) (F : Addr → Prop) (H : Hp) : Out Fl → Prop
  | .stuck => False
  | .ok fl en' b' => ∀ σ' F' H', Le F H F' H' → EO L F' H' σ' en' b' → FlOk L Dn F' H' σ' en' fl
  | .exc x en' b' => ∀ σ' F' H' cls dd, Le F H F' H' → EO L F' H' σ' en' b' → L.exr x cls dd H' → W cls dd σ' H'
def tS (L : Lo) (W : WX) (f : M Fl) : TS := fun Dn σ H => ∃ F en b, EO L F H σ en b ∧ PoS L W Dn F H (f en b)
/-- a target: the slots vs alone are stored -/
def tG (L : Lo) (vs : List Nat) (g : D → M Unit) : TG := fun v σ H Q => ∃ F en b d, EO L F H σ en b ∧ Rep L.β F H v d ∧ match g d en b with
  | .ok _ en' b' => ∀ σ', EO L F H σ' en' b' → wipe σ' vs = wipe σ vs → (∀ a, Ow σ' en' a → Ow σ en a) → Q σ' H
  | _ => False
def tGs (L : Lo) (vs : List Nat) (g : List D → M Unit) : TGs := fun us σ H Q => ∃ F en b ds, EO L F H σ en b ∧ Reps L.β F H us ds ∧ match g ds en b with
  | .ok _ en' b' => ∀ σ', EO L F H σ' en' b' → wipe σ' vs = wipe σ vs → (∀ a, Ow σ' en' a → Ow σ en a) → Q σ' H
  | _ => False
abbrev RX (X : Cx) (L : Lo) (W : WX) (e : Expr) (f : M (Bool × D)) : Prop := PE X e (tX L W f)
abbrev RE (X : Cx) (L : Lo) (W : WX) (e : Expr) (f : M D) : Prop := PE X e (tD L W f)
abbrev RP (X : Cx) (L : Lo) (W : WX) (e : Expr) (f : M D) : Prop := PE X e (tP L W f)
abbrev RT (X : Cx) (L : Lo) (W : WX) (e : Expr) (f : M Bool) : Prop := PT X e (tB L W f)
abbrev RA (X : Cx) (L : Lo) (W : WX) (es : List Expr) (f : M (List D)) : Prop := PA X es (tA L W f)
abbrev RS (X : Cx) (L : Lo) (W : WX) (st : Stmt) (f : M Fl) : Prop := PS X st (tS L W f)
abbrev RSs (X : Cx) (L : Lo) (W : WX) (st : List Stmt) (f : M Fl) : Prop := PSs X st (tS L W f)
abbrev RG (X : Cx) (L : Lo) (vs : List Nat) (tg : Expr) (g : D → M Unit) : Prop := PG X tg (tG L vs g)
abbrev RGs (X : Cx) (L : Lo) (vs : List Nat) (tgs : List Expr) (g : List D → M Unit) : Prop := PGs X tgs (tGs L vs g)

section
variable {X : Cx} {L : Lo} {W : WX} {e : Expr} {pos : Pos}
theorem peImp {t t' : TE} (h : PE X e t) (i : ∀ σ H Q, t' σ H Q → t σ H Q) : PE X e t' := ⟨fun pins s σ H Q I q => h.run pins s σ H Q I (i _ _ _ q)⟩
theorem ptImp {t t' : TT} (h : PT X e t) (i : ∀ σ H Q, t' σ H Q → t σ H Q) : PT X e t' := ⟨fun pins s σ H Q I q => h.run pins s σ H Q I (i _ _ _ q)⟩
theorem paImp {es : List Expr} {t t' : TA} (h : PA X es t) (i : ∀ σ H Q, t' σ H Q → t σ H Q) : PA X es t' := ⟨fun pos pins s σ H Q I q => h.run pos pins s σ H Q I (i _ _ _ q)⟩
theorem psImp {st : Stmt} {t t' : TS} (h : PS X st t) (i : ∀ Dn σ H, t' Dn σ H → t Dn σ H) : PS X st t' := ⟨fun pins s σ H Dn I q => h.run pins s σ H Dn I (i _ _ _ q)⟩
theorem pssImp {st : List Stmt} {t t' : TS} (h : PSs X st t) (i : ∀ Dn σ H, t' Dn σ H → t Dn σ H) : PSs X st t' := ⟨fun pins s σ H Dn I q => h.run pins s σ H Dn I (i _ _ _ q)⟩

/-- frozen, if it is new -/
def fz (f : M (Bool × D)) : M D := f.bind fun r => M.ret r.2
def fr (f : M D) : M (Bool × D) := f.bind fun r => M.ret (false, r)
theorem rx_fz {f : M (Bool × D)} (h : RX X L W e f) : RE X L W e (fz f) := peImp h fun σ H Q ⟨F, en, b, o, q⟩ => ⟨F, en, b, o, by
  unfold fz M.bind M.ret at q
  cases hf : f en b with
  | stuck => rw [hf] at q; exact q
  | exc x en' b' => rw [hf] at q; exact q
  | ok r en' b' =>
    rw [hf] at q
    intro v F' H' l o' r' n'
    obtain ⟨k, d⟩ := r
    cases k with
    | false => exact q v F' H' l o' r'
    | true =>
      obtain ⟨a, rfl, w, n⟩ := r'
      exact q _ _ H' (l.frzNew (n' rfl a rfl)) (o'.frz w n) w.top.rep⟩
theorem re_fr {f : M D} (h : RE X L W e f) : RX X L W e (fr f) := peImp h fun σ H Q ⟨F, en, b, o, q⟩ => ⟨F, en, b, o, by
  unfold fr M.bind M.ret at q
  cases hf : f en b with
  | stuck => rw [hf] at q; exact q
  | exc x en' b' => rw [hf] at q; exact q
  | ok r en' b' =>
    rw [hf] at q
    exact fun v F' H' l o' r' => q v F' H' l o' r' (fun z => nomatch z)⟩
theorem re_pk {f : M D} (h : RE X L W e f) : RP X L W e f := peImp h fun σ H Q ⟨F, en, b, o, q⟩ => ⟨F, en, b, o, by
  cases hf : f en b with
  | stuck => rw [hf] at q; exact q
  | exc x en' b' => rw [hf] at q; exact q
  | ok r en' b' =>
    rw [hf] at q
    exact fun v F' H' l o' r' => q v F' H' l o' (.inl r')⟩

/-! ### names and constants -/
/-- a name's data, frozen by it -/
def nm (i : Nat) : M D := fun en b => match en[i]? with
  | some (some (true, d)) => .ok d (en.set i (some (false, d))) b
  | some (some (false, d)) => .ok d en b
  | _ => .stuck
/-- a name's data, as it stands -/
def pk (i : Nat) : M D := fun en b => match en[i]? with
  | some (some (_, d)) => .ok d en b
  | _ => .stuck
theorem nm_true {i : Nat} {en : SE} {b : Bg} {d : D} (h : en[i]? = some (some (true, d))) : nm i en b = .ok d (en.set i (some (false, d))) b := by unfold nm; rw [h]
theorem nm_false {i : Nat} {en : SE} {b : Bg} {d : D} (h : en[i]? = some (some (false, d))) : nm i en b = .ok d en b := by unfold nm; rw [h]
theorem nm_cases (i : Nat) (en : SE) (b : Bg) : (∃ d, en[i]? = some (some (true, d))) ∨ (∃ d, en[i]? = some (some (false, d))) ∨ (nm i en b = .stuck ∧ pk i en b = .stuck) := by
  unfold nm pk
  match h : en[i]? with
  | some (some (true, d)) => exact .inl ⟨d, rfl⟩
  | some (some (false, d)) => exact .inr (.inl ⟨d, rfl⟩)
  | some none => exact .inr (.inr ⟨rfl, rfl⟩)
  | none => exact .inr (.inr ⟨rfl, rfl⟩)
theorem pk_some {i : Nat} {en : SE} {b : Bg} {d : D} {k : Bool} (h : en[i]? = some (some (k, d))) : pk i en b = .ok d en b := by unfold pk; rw [h]
theorem re_var {i : Nat} (h : PE X e (tVar i)) : RE X L W e (nm i) := peImp h fun σ H Q ⟨F, en, b, o, q⟩ => by
  rcases nm_cases i en b with ⟨d, hd⟩ | ⟨d, hd⟩ | ⟨hd, _⟩
  · rw [nm_true hd] at q
    obtain ⟨a, h1, r, o2⟩ := o.frzAt hd
    exact ⟨_, h1, q _ _ _ (.frzAt hd h1) o2 r⟩
  · rw [nm_false hd] at q
    obtain ⟨v, h1, r⟩ := o.sl i d hd
    exact ⟨v, h1, q _ _ _ Stp.refl o r⟩
  · rw [hd] at q
    exact q.elim
theorem rp_var {i : Nat} (h : PE X e (tVar i)) : RP X L W e (pk i) := peImp h fun σ H Q ⟨F, en, b, o, q⟩ => by
  rcases nm_cases i en b with ⟨d, hd⟩ | ⟨d, hd⟩ | ⟨_, hd⟩
  · rw [pk_some hd] at q
    obtain ⟨a, h1, w⟩ := o.ow i d hd
    exact ⟨_, h1, q _ _ _ Stp.refl o (.inr ⟨i, a, rfl, hd, h1, w.top⟩)⟩
  · rw [pk_some hd] at q
    obtain ⟨v, h1, r⟩ := o.sl i d hd
    exact ⟨v, h1, q _ _ _ Stp.refl o (.inl r)⟩
  · rw [hd] at q
    exact q.elim
theorem re_c {v : V} {d : D} (h : PE X e (tC v)) (r : ∀ F H, Rep L.β F H v d) : RE X L W e (M.ret d) := peImp h fun σ H Q ⟨F, en, b, o, q⟩ => q _ _ _ Stp.refl o (r F H)
theorem re_int {i : Int} {j p} : RE X L W (.Constant (.int i) j p) (M.ret (.int i)) := re_c pe_int fun _ _ => .int i
theorem re_bl {i : Bool} {j p} : RE X L W (.Constant (.bool i) j p) (M.ret (.bool i)) := re_c pe_bl fun _ _ => .bl i
theorem re_str {i : Str} {j p} : RE X L W (.Constant (.str i) j p) (M.ret (.str i)) := re_c pe_str fun _ _ => .str i
theorem re_non {j p} : RE X L W (.Constant .none j p) (M.ret .none) := re_c pe_non fun _ _ => .non
/-- a module's whole number -/
theorem re_gint {x : Str} {i : Int} (hg : Gl X x) (hm : ∃ t, X.mg x = some (.int i t)) (hd : (x == ("__debug__" : Str)) = false := by decide) : RE X L W (.Name x pos) (M.ret (.int i)) := by
  obtain ⟨t, ht⟩ := hm
  exact re_c (pe_glob hg ht (v := .int i) ⟨t, rfl⟩ hd) fun _ _ => .int i

/-! ### argument lists -/
def consM (f : M D) (g : M (List D)) : M (List D) := f.bind fun x => g.bind fun xs => M.ret (x :: xs)
theorem ra_nil : RA X L W [] (M.ret []) := paImp pa_nil fun σ H Q ⟨F, en, b, o, q⟩ => q [] F H Stp.refl o .nil
theorem ra_cons {es : List Expr} {f : M D} {g : M (List D)} (h : RE X L W e f) (hr : RA X L W es g) (hs : starEach (e :: es) X.env = (false, eval e X.env) :: starEach es X.env := by rfl) : RA X L W (e :: es) (consM f g) :=
  paImp (pa_cons h hr hs) fun σ H Q ⟨F, en, b, o, q⟩ => ⟨F, en, b, o, by
    unfold consM M.bind M.ret at q
    cases hf : f en b with
    | stuck => rw [hf] at q; exact q
    | exc x en' b' => rw [hf] at q; exact q
    | ok r en' b' =>
      rw [hf] at q
      intro v F' H' l o' r'
      refine ⟨F', en', b', o', ?_⟩
      dsimp only at q
      cases hg : g en' b' with
      | stuck => rw [hg] at q; exact q
      | exc x en2 b2 =>
        rw [hg] at q
        exact fun F2 H2 cls dd l2 o2 x2 => q F2 H2 cls dd (l.le.trans l2) o2 x2
      | ok rs en2 b2 =>
        rw [hg] at q
        exact fun vs F2 H2 l2 o2 r2 => q _ F2 H2 (l.trans l2) o2 (.cons (r'.mono l2.le) r2)⟩

/-! ### operators by their rules -/
/-- r, a rule by values, gives what o gives by data: new objects may be made -/
def BinS (L : Lo) (r : R2) (o : D → D → Option (Bool × D)) : Prop :=
  ∀ F H σ en b x y dx dy rr (Q : VK), EO L F H σ en b → Rep L.β F H x dx → Rep L.β F H y dy → o dx dy = some rr →
    (∀ v F' H', Gr H H' → EO L F' H' σ en b → Stp L σ F H en F' H' en → ResOk L F' H' σ en v rr → ResNew H v rr → Q v H') → r x y H Q
def binM (o : D → D → Option (Bool × D)) (f g : M D) : M (Bool × D) := f.bind fun x => g.bind fun y => opt (o x y)
theorem rx_bin {r : R2} {o : D → D → Option (Bool × D)} {f g : M D} (h : PE X e (tOp r (tD L W f) (tD L W g))) (hs : BinS L r o) : RX X L W e (binM o f g) := peImp h fun σ H Q ⟨F, en, b, eo, q⟩ => ⟨F, en, b, eo, by
  unfold binM M.bind at q
  cases hf : f en b with
  | stuck => rw [hf] at q; exact q
  | exc x en' b' => rw [hf] at q; exact q
  | ok dx en' b' =>
    rw [hf] at q
    intro x F' H' l eo' rx
    refine ⟨F', en', b', eo', ?_⟩
    dsimp only at q
    cases hg : g en' b' with
    | stuck => rw [hg] at q; exact q
    | exc x en2 b2 =>
      rw [hg] at q
      exact fun F2 H2 cls dd l2 o2 x2 => q F2 H2 cls dd (l.le.trans l2) o2 x2
    | ok dy en2 b2 =>
      rw [hg] at q
      intro y F2 H2 l2 eo2 ry
      dsimp only [opt] at q
      cases ho : o dx dy with
      | none => rw [ho] at q; exact q.elim
      | some rr =>
        rw [ho] at q
        exact hs F2 H2 σ en2 b2 x y dx dy rr Q eo2 (rx.mono l2.le) ry ho fun v F3 H3 g3 eo3 l3 rv n3 => q v F3 H3 ((l.trans l2).trans l3) eo3 rv fun z a e => by
          by_cases h0 : H a = none
          · exact h0
          · exact absurd (n3 z a e) (l2.th a (l.th a h0))⟩
/-- .. scalars alone -/
def BinD (L : Lo) (r : R2) (o : D → D → Option D) : Prop :=
  ∀ F H x y dx dy rr (Q : VK), Rep L.β F H x dx → Rep L.β F H y dy → o dx dy = some rr → (∀ v, Rep L.β F H v rr → Q v H) → r x y H Q
def binD (o : D → D → Option D) (f g : M D) : M D := f.bind fun x => g.bind fun y => opt (o x y)
theorem re_binD {r : R2} {o : D → D → Option D} {f g : M D} (h : PE X e (tOp r (tD L W f) (tD L W g))) (hs : BinD L r o) : RE X L W e (binD o f g) := peImp h fun σ H Q ⟨F, en, b, eo, q⟩ => ⟨F, en, b, eo, by
  unfold binD M.bind at q
  cases hf : f en b with
  | stuck => rw [hf] at q; exact q
  | exc x en' b' => rw [hf] at q; exact q
  | ok dx en' b' =>
    rw [hf] at q
    intro x F' H' l eo' rx
    refine ⟨F', en', b', eo', ?_⟩
    dsimp only at q
    cases hg : g en' b' with
    | stuck => rw [hg] at q; exact q
    | exc x en2 b2 =>
      rw [hg] at q
      exact fun F2 H2 cls dd l2 o2 x2 => q F2 H2 cls dd (l.le.trans l2) o2 x2
    | ok dy en2 b2 =>
      rw [hg] at q
      intro y F2 H2 l2 eo2 ry
      dsimp only [opt] at q
      cases ho : o dx dy with
      | none => rw [ho] at q; exact q.elim
      | some rr =>
        rw [ho] at q
        exact hs F2 H2 x y dx dy rr Q (rx.mono l2.le) ry ho fun v rv => q v F2 H2 (l.trans l2) eo2 rv⟩
theorem BinS.fz {r : R2} {o : D → D → Option (Bool × D)} {f g : M D} (h : PE X e (tOp r (tD L W f) (tD L W g))) (hs : BinS L r o) : RE X L W e (PL.fz (binM o f g)) := rx_fz (rx_bin h hs)

/-- a rule of one value -/
def UnS (L : Lo) (r : V → Hp → VK → Prop) (o : D → Option (Bool × D)) : Prop :=
  ∀ F H σ en b x dx rr (Q : VK), EO L F H σ en b → Pk L F H σ en x dx → o dx = some rr →
    (∀ v F' H', Gr H H' → EO L F' H' σ en b → Stp L σ F H en F' H' en → ResOk L F' H' σ en v rr → ResNew H v rr → Q v H') → r x H Q
def unM (o : D → Option (Bool × D)) (f : M D) : M (Bool × D) := f.bind fun x => opt (o x)
theorem rx_un {r : V → Hp → VK → Prop} {o : D → Option (Bool × D)} {f : M D} (h : PE X e (fun σ H Q => tP L W f σ H fun x H1 => r x H1 Q)) (hs : UnS L r o) : RX X L W e (unM o f) := peImp h fun σ H Q ⟨F, en, b, eo, q⟩ => ⟨F, en, b, eo, by
  unfold unM M.bind at q
  cases hf : f en b with
  | stuck => rw [hf] at q; exact q
  | exc x en' b' => rw [hf] at q; exact q
  | ok dx en' b' =>
    rw [hf] at q
    intro x F' H' l eo' rx
    dsimp only [opt] at q
    cases ho : o dx with
    | none => rw [ho] at q; exact q.elim
    | some rr =>
      rw [ho] at q
      exact hs F' H' σ en' b' x dx rr Q eo' rx ho fun v F3 H3 g3 eo3 l3 rv n3 => q v F3 H3 (l.trans l3) eo3 rv fun z a e => by
        by_cases h0 : H a = none
        · exact h0
        · exact absurd (n3 z a e) (l.th a h0)⟩
/-- a rule of several frozen values -/
def ArgS (L : Lo) (r : List V → Hp → VK → Prop) (o : List D → Option (Bool × D)) : Prop :=
  ∀ F H σ en b xs ds rr (Q : VK), EO L F H σ en b → Reps L.β F H xs ds → o ds = some rr →
    (∀ v F' H', Gr H H' → EO L F' H' σ en b → Stp L σ F H en F' H' en → ResOk L F' H' σ en v rr → ResNew H v rr → Q v H') → r xs H Q
def argM (o : List D → Option (Bool × D)) (f : M (List D)) : M (Bool × D) := f.bind fun x => opt (o x)
theorem rx_arg {r : List V → Hp → VK → Prop} {o : List D → Option (Bool × D)} {f : M (List D)} (h : PE X e (tCB r (tA L W f))) (hs : ArgS L r o) : RX X L W e (argM o f) := peImp h fun σ H Q ⟨F, en, b, eo, q⟩ => ⟨F, en, b, eo, by
  unfold argM M.bind at q
  cases hf : f en b with
  | stuck => rw [hf] at q; exact q
  | exc x en' b' => rw [hf] at q; exact q
  | ok dx en' b' =>
    rw [hf] at q
    intro x F' H' l eo' rx
    dsimp only [opt] at q
    cases ho : o dx with
    | none => rw [ho] at q; exact q.elim
    | some rr =>
      rw [ho] at q
      exact hs F' H' σ en' b' x dx rr Q eo' rx ho fun v F3 H3 g3 eo3 l3 rv n3 => q v F3 H3 (l.trans l3) eo3 rv fun z a e => by
        by_cases h0 : H a = none
        · exact h0
        · exact absurd (n3 z a e) (l.th a h0)⟩

/-! ### tests -/
/-- the truth of data -/
def truD : D → Option Bool
  | .none => some false
  | .bool b => some b
  | .int i => some (i != 0)
  | .list xs => some (!xs.isEmpty)
  | .tuple xs => some (!xs.isEmpty)
  | _ => none
def truM (f : M D) : M Bool := f.bind fun x => opt (truD x)
theorem Reps.emp {β F H} {v : List V} {d : List D} (h : Reps β F H v d) : v.isEmpty = d.isEmpty := by cases h <;> rfl
theorem pk_tru {F : Addr → Prop} {H : Hp} {σ : St} {en : SE} {v : V} {d : D} {k : Bool} (h : Pk L F H σ en v d) (e : truD d = some k) : TruV X.K v H k := by
  rcases h with h | ⟨i, a, rfl, _, _, t⟩
  · cases h with
    | non => exact (Option.some.inj e).symm
    | bl b => exact (Option.some.inj e).symm
    | int i => exact (Option.some.inj e).symm
    | str x => cases e
    | lst f h r => exact .inl ⟨_, .of h, by rw [r.emp]; exact (Option.some.inj e).symm⟩
    | tup f h r => exact .inr (.inl ⟨_, .of h, by rw [r.emp]; exact (Option.some.inj e).symm⟩)
    | dK f h r => cases e
    | bag => cases e
  · cases d with
    | list ds =>
      obtain ⟨xs, h, r⟩ := t
      exact .inl ⟨_, .of h, by rw [r.emp]; exact (Option.some.inj e).symm⟩
    | dict ds => cases e
    | _ => exact t.elim
theorem rt_tru {f : M D} (h : RP X L W e f) (he : ∀ whole, isTrue e X.env whole = (do let v ← whole; standAt e.pos; holding [v] (truthy v)) := by intro _; rfl) : RT X L W e (truM f) := by
  refine ptImp (pt_truth h he) fun σ H Q ⟨F, en, b, eo, q⟩ => ⟨F, en, b, eo, ?_⟩
  unfold truM M.bind at q
  cases hf : f en b with
  | stuck => rw [hf] at q; exact q
  | exc x en' b' => rw [hf] at q; exact q
  | ok dx en' b' =>
    rw [hf] at q
    intro x F' H' l eo' rx
    dsimp only [opt] at q
    cases ho : truD dx with
    | none => rw [ho] at q; exact q.elim
    | some rr =>
      rw [ho] at q
      exact ⟨rr, pk_tru rx ho, q F' H' l eo'⟩
/-- an expression that gives a bool, as a test, by its PE-form -/
def asB : D → Option Bool
  | .bool b => some b
  | _ => none
def bolM (f : M D) : M Bool := f.bind fun x => opt (asB x)
theorem rt_of {t : TE} {f : M D} (h : PT X e (tTest t)) (i : ∀ σ H Q, tD L W f σ H Q → t σ H Q) : RT X L W e (bolM f) := by
  refine ptImp h fun σ H Q ⟨F, en, b, eo, q⟩ => ?_
  refine i σ H (fun x H' => ∃ k, x = .bl k ∧ Q k H') ⟨F, en, b, eo, ?_⟩
  unfold bolM M.bind at q
  cases hf : f en b with
  | stuck => rw [hf] at q; exact q
  | exc x en' b' => rw [hf] at q; exact q
  | ok dx en' b' =>
    rw [hf] at q
    intro x F' H' l eo' rx
    dsimp only [opt] at q
    cases dx with
    | bool k =>
      cases rx
      exact ⟨k, rfl, q F' H' l eo'⟩
    | _ => exact q.elim
def notM (f : M Bool) : M Bool := f.bind fun x => M.ret (!x)
theorem rt_not {a : Expr} {f : M Bool} (h : RT X L W a f) : RT X L W (.UnaryOp .Not a pos) (notM f) := ptImp (pt_not h) fun σ H Q ⟨F, en, b, eo, q⟩ => ⟨F, en, b, eo, by
  unfold notM M.bind M.ret at q
  cases hf : f en b with
  | stuck => rw [hf] at q; exact q
  | exc x en' b' => rw [hf] at q; exact q
  | ok dx en' b' => rw [hf] at q; exact q⟩
def andM (f g : M Bool) : M Bool := f.bind fun x => match x with | true => g | false => M.ret false
def orM (f g : M Bool) : M Bool := f.bind fun x => match x with | true => M.ret true | false => g
abbrev RW (X : Cx) (L : Lo) (W : WX) (e : Expr) (f : M Bool) : Prop := PW X e (tB L W f)
theorem RW.pt {f : M Bool} (h : RW X L W e f) : RT X L W e f := PW.pt h
theorem pwImp {t t' : TT} (h : PW X e t) (i : ∀ σ H Q, t' σ H Q → t σ H Q) : PW X e t' := ⟨fun w pins s σ H Q I q => h.run w pins s σ H Q I (i _ _ _ q)⟩
theorem rw_and1 {a : Expr} {f : M Bool} (h : RT X L W a f) : RW X L W (.BoolOp .And [a] pos) f := pw_and1 h
theorem rw_or1 {a : Expr} {f : M Bool} (h : RT X L W a f) : RW X L W (.BoolOp .Or [a] pos) f := pw_or1 h
theorem rw_and {a b' : Expr} {rest : List Expr} {f g : M Bool} (h : RT X L W a f) (hr : RW X L W (.BoolOp .And (b' :: rest) pos) g) : RW X L W (.BoolOp .And (a :: b' :: rest) pos) (andM f g) := pwImp (pw_and h hr) fun σ H Q ⟨F, en, b, eo, q⟩ => ⟨F, en, b, eo, by
  unfold andM M.bind M.ret at q
  cases hf : f en b with
  | stuck => rw [hf] at q; exact q
  | exc x en' b' => rw [hf] at q; exact q
  | ok dx en' b' =>
    rw [hf] at q
    intro F' H' l eo'
    cases dx with
    | false => exact iteF (q F' H' l eo')
    | true =>
      refine iteT ⟨F', en', b', eo', ?_⟩
      dsimp only at q
      cases hg : g en' b' with
      | stuck => rw [hg] at q; exact q
      | exc x en2 b2 => rw [hg] at q; exact fun F2 H2 cls dd l2 o2 x2 => q F2 H2 cls dd (l.le.trans l2) o2 x2
      | ok dy en2 b2 => rw [hg] at q; exact fun F2 H2 l2 o2 => q F2 H2 (l.trans l2) o2⟩
theorem rw_or {a b' : Expr} {rest : List Expr} {f g : M Bool} (h : RT X L W a f) (hr : RW X L W (.BoolOp .Or (b' :: rest) pos) g) : RW X L W (.BoolOp .Or (a :: b' :: rest) pos) (orM f g) := pwImp (pw_or h hr) fun σ H Q ⟨F, en, b, eo, q⟩ => ⟨F, en, b, eo, by
  unfold orM M.bind M.ret at q
  cases hf : f en b with
  | stuck => rw [hf] at q; exact q
  | exc x en' b' => rw [hf] at q; exact q
  | ok dx en' b' =>
    rw [hf] at q
    intro F' H' l eo'
    cases dx with
    | true => exact iteT (q F' H' l eo')
    | false =>
      refine iteF ⟨F', en', b', eo', ?_⟩
      dsimp only at q
      cases hg : g en' b' with
      | stuck => rw [hg] at q; exact q
      | exc x en2 b2 => rw [hg] at q; exact fun F2 H2 cls dd l2 o2 x2 => q F2 H2 cls dd (l.le.trans l2) o2 x2
      | ok dy en2 b2 => rw [hg] at q; exact fun F2 H2 l2 o2 => q F2 H2 (l.trans l2) o2⟩
/-- and, or, not as values of bools -/
def andV (f g : M D) : M D := f.bind fun x => match x with
  | .bool true => g
  | .bool false => M.ret (.bool false)
  | _ => stk
def orV (f g : M D) : M D := f.bind fun x => match x with
  | .bool false => g
  | .bool true => M.ret (.bool true)
  | _ => stk
def notV (f : M D) : M D := f.bind fun x => match x with
  | .bool k => M.ret (.bool (!k))
  | _ => stk
theorem re_one {op} {a : Expr} {f : M D} (h : RE X L W a f) : RE X L W (.BoolOp op [a] pos) f := pe_one h
theorem re_and {a b' : Expr} {rest : List Expr} {f g : M D} (h : RE X L W a f) (hr : RE X L W (.BoolOp .And (b' :: rest) pos) g) : RE X L W (.BoolOp .And (a :: b' :: rest) pos) (andV f g) := peImp (pe_and h hr) fun σ H Q ⟨F, en, b, eo, q⟩ => ⟨F, en, b, eo, by
  unfold andV M.bind at q
  cases hf : f en b with
  | stuck => rw [hf] at q; exact q
  | exc x en' b' => rw [hf] at q; exact q
  | ok dx en' b' =>
    rw [hf] at q
    intro x F' H' l eo' rx
    cases dx with
    | bool k =>
      cases rx
      refine ⟨k, rfl, ?_⟩
      cases k with
      | false => exact iteF (q _ F' H' l eo' (.bl false))
      | true =>
        refine iteT ⟨F', en', b', eo', ?_⟩
        dsimp only at q
        cases hg : g en' b' with
        | stuck => rw [hg] at q; exact q
        | exc x en2 b2 => rw [hg] at q; exact fun F2 H2 cls dd l2 o2 x2 => q F2 H2 cls dd (l.le.trans l2) o2 x2
        | ok dy en2 b2 => rw [hg] at q; exact fun v F2 H2 l2 o2 => q v F2 H2 (l.trans l2) o2
    | _ => exact q.elim⟩
theorem re_or {a b' : Expr} {rest : List Expr} {f g : M D} (h : RE X L W a f) (hr : RE X L W (.BoolOp .Or (b' :: rest) pos) g) : RE X L W (.BoolOp .Or (a :: b' :: rest) pos) (orV f g) := peImp (pe_or h hr) fun σ H Q ⟨F, en, b, eo, q⟩ => ⟨F, en, b, eo, by
  unfold orV M.bind at q
  cases hf : f en b with
  | stuck => rw [hf] at q; exact q
  | exc x en' b' => rw [hf] at q; exact q
  | ok dx en' b' =>
    rw [hf] at q
    intro x F' H' l eo' rx
    cases dx with
    | bool k =>
      cases rx
      refine ⟨k, rfl, ?_⟩
      cases k with
      | true => exact iteT (q _ F' H' l eo' (.bl true))
      | false =>
        refine iteF ⟨F', en', b', eo', ?_⟩
        dsimp only at q
        cases hg : g en' b' with
        | stuck => rw [hg] at q; exact q
        | exc x en2 b2 => rw [hg] at q; exact fun F2 H2 cls dd l2 o2 x2 => q F2 H2 cls dd (l.le.trans l2) o2 x2
        | ok dy en2 b2 => rw [hg] at q; exact fun v F2 H2 l2 o2 => q v F2 H2 (l.trans l2) o2
    | _ => exact q.elim⟩
theorem re_not {a : Expr} {f : M D} (h : RE X L W a f) : RE X L W (.UnaryOp .Not a pos) (notV f) := peImp (pe_not h) fun σ H Q ⟨F, en, b, eo, q⟩ => ⟨F, en, b, eo, by
  unfold notV M.bind at q
  cases hf : f en b with
  | stuck => rw [hf] at q; exact q
  | exc x en' b' => rw [hf] at q; exact q
  | ok dx en' b' =>
    rw [hf] at q
    intro x F' H' l eo' rx
    cases dx with
    | bool k =>
      cases rx
      exact ⟨k, rfl, q _ F' H' l eo' (.bl _)⟩
    | _ => exact q.elim⟩
/-- a if c else b -/
def iteM {α : Type} (c : M Bool) (f g : M α) : M α := c.bind fun x => match x with | true => f | false => g
theorem re_if {a b' c : Expr} {h : M Bool} {f g : M D} (hc : RT X L W c h) (ha : RE X L W a f) (hb : RE X L W b' g) : RE X L W (.IfExp c a b' pos) (iteM h f g) := peImp (pe_ifExp hc ha hb) fun σ H Q ⟨F, en, b, eo, q⟩ => ⟨F, en, b, eo, by
  unfold iteM M.bind at q
  cases hf : h en b with
  | stuck => rw [hf] at q; exact q
  | exc x en' b' => rw [hf] at q; exact q
  | ok dx en' b' =>
    rw [hf] at q
    intro F' H' l eo'
    cases dx with
    | true =>
      refine iteT ⟨F', en', b', eo', ?_⟩
      dsimp only at q
      cases hg : f en' b' with
      | stuck => rw [hg] at q; exact q
      | exc x en2 b2 => rw [hg] at q; exact fun F2 H2 cls dd l2 o2 x2 => q F2 H2 cls dd (l.le.trans l2) o2 x2
      | ok dy en2 b2 => rw [hg] at q; exact fun v F2 H2 l2 o2 => q v F2 H2 (l.trans l2) o2
    | false =>
      refine iteF ⟨F', en', b', eo', ?_⟩
      dsimp only at q
      cases hg : g en' b' with
      | stuck => rw [hg] at q; exact q
      | exc x en2 b2 => rw [hg] at q; exact fun F2 H2 cls dd l2 o2 x2 => q F2 H2 cls dd (l.le.trans l2) o2 x2
      | ok dy en2 b2 => rw [hg] at q; exact fun v F2 H2 l2 o2 => q v F2 H2 (l.trans l2) o2⟩
theorem rx_if {a b' c : Expr} {h : M Bool} {f g : M (Bool × D)} (hc : RT X L W c h) (ha : RX X L W a f) (hb : RX X L W b' g) : RX X L W (.IfExp c a b' pos) (iteM h f g) := peImp (pe_ifExp hc ha hb) fun σ H Q ⟨F, en, b, eo, q⟩ => ⟨F, en, b, eo, by
  unfold iteM M.bind at q
  cases hf : h en b with
  | stuck => rw [hf] at q; exact q
  | exc x en' b' => rw [hf] at q; exact q
  | ok dx en' b' =>
    rw [hf] at q
    intro F' H' l eo'
    cases dx with
    | true =>
      refine iteT ⟨F', en', b', eo', ?_⟩
      dsimp only at q
      cases hg : f en' b' with
      | stuck => rw [hg] at q; exact q
      | exc x en2 b2 => rw [hg] at q; exact fun F2 H2 cls dd l2 o2 x2 => q F2 H2 cls dd (l.le.trans l2) o2 x2
      | ok dy en2 b2 => rw [hg] at q; exact fun v F2 H2 l2 o2 r2 n2 => q v F2 H2 (l.trans l2) o2 r2 (n2.back l)
    | false =>
      refine iteF ⟨F', en', b', eo', ?_⟩
      dsimp only at q
      cases hg : g en' b' with
      | stuck => rw [hg] at q; exact q
      | exc x en2 b2 => rw [hg] at q; exact fun F2 H2 cls dd l2 o2 x2 => q F2 H2 cls dd (l.le.trans l2) o2 x2
      | ok dy en2 b2 => rw [hg] at q; exact fun v F2 H2 l2 o2 r2 n2 => q v F2 H2 (l.trans l2) o2 r2 (n2.back l)⟩
end
end PL
namespace PL
open PySem PySem.Spec PyProof.Rows L2

section
variable {X : Cx} {L : Lo} {W : WX} {F : Addr → Prop} {H : Hp} {σ : St} {en : SE} {b : Bg}
theorem newLst (eo : EO L F H σ en b) {p : Addr} (hp : H p = none) {xs : List V} {ds : List D} (r : Reps L.β F H xs ds) {P : Prop}
    (k : Gr H (upd H p (.lst xs)) → EO L F (upd H p (.lst xs)) σ en b → Stp L σ F H en F (upd H p (.lst xs)) en → ResOk L F (upd H p (.lst xs)) σ en (.ref p) (true, .list ds) → ResNew H (.ref p) (true, .list ds) → P) : P := by
  have g := gr_upd (u := .lst xs) hp
  obtain ⟨e1, e2⟩ := eo.made (u := .lst xs) (d := .list ds) hp ⟨xs, upd_same, r.mono (Gr.le eo g)⟩
  exact k g e1 (.grow eo g) e2 fun _ a e => by cases e; exact hp
theorem newTup (eo : EO L F H σ en b) {p : Addr} (hp : H p = none) {xs : List V} {ds : List D} (r : Reps L.β F H xs ds) {P : Prop}
    (k : Gr H (upd H p (.tup xs)) → EO L (frz1 F p) (upd H p (.tup xs)) σ en b → Stp L σ F H en (frz1 F p) (upd H p (.tup xs)) en → Rep L.β (frz1 F p) (upd H p (.tup xs)) (.ref p) (.tuple ds) → P) : P := by
  have g := gr_upd (u := .tup xs) hp
  obtain ⟨n1, n2, n3, n4⟩ := eo.new0 hp
  have e1 := eo.grow g
  have no : ∀ (i : Nat) d', en[i]? = some (some (true, d')) → σ[i]? ≠ some (some (V.ref p)) := fun i d' h q => by
    obtain ⟨a, h1, h2⟩ := eo.ow i d' h
    rw [h1] at q
    cases q
    exact h2.there hp
  refine k g ⟨fun c f => ?_, e1.ent, fun c f => .inl (e1.f0 c f), fun c f => ?_, e1.len, fun i d h => ?_, fun i d h => ?_, e1.di, e1.bg⟩ ((Stp.grow eo g).frzNew hp) (.tup (.inr rfl) upd_same ((r.mono (Gr.le eo g)).mono le_frz))
  · rcases f with f | rfl
    · exact e1.fh c f
    · exact ⟨by rw [upd_same]; simp, n3, n4⟩
  · rcases f with f | rfl
    · exact e1.fn c f
    · exact .inr n1
  · obtain ⟨v, k1, k2⟩ := e1.sl i d h
    exact ⟨v, k1, k2.mono le_frz⟩
  · obtain ⟨a, k1, k2⟩ := e1.ow i d h
    refine ⟨a, k1, fun f => ?_, k2.nb, k2.nc, k2.new, k2.top.mono le_frz rfl⟩
    rcases f with f | rfl
    · exact k2.nf f
    · exact no i d h k1
theorem ResNew.no {v : V} {d : D} : ResNew H v (false, d) := fun z => nomatch z

theorem iteSome {α : Type} {c : Prop} [d : Decidable c] {a r : α} (e : (if c then some a else none) = some r) : c ∧ a = r := by
  by_cases h : c
  · rw [if_pos h] at e
    exact ⟨h, Option.some.inj e⟩
  · rw [if_neg h] at e
    cases e
/-! ### + and * -/
def addX : D → D → Option (Bool × D)
  | .int i, .int j => some (false, .int (i + j))
  | .str x, .str y => if x.length + y.length ≤ sizeLine then some (false, .str (x ++ y)) else none
  | .list xs, .list ys => if xs.length + ys.length ≤ sizeLine then some (true, .list (xs ++ ys)) else none
  | .tuple xs, .tuple ys => if xs.length + ys.length ≤ sizeLine then some (false, .tuple (xs ++ ys)) else none
  | _, _ => none
theorem op_addX : OpR X (binaryOp .Add) (fun x y H Q => (rI0 (fun i j => .int (i + j)) x y H Q ∨ rCat x y H Q) ∨ (rCatA X.K x y H Q ∨ ∃ i j, x = .str i ∧ y = .str j ∧ i.length + j.length ≤ sizeLine ∧ Q (.str (i ++ j)) H)) :=
  (op_add.or op_cat).or (op_catA.or op_add_str)
theorem addX_ok : BinS L (fun x y H Q => (rI0 (fun i j => .int (i + j)) x y H Q ∨ rCat x y H Q) ∨ (rCatA X.K x y H Q ∨ ∃ i j, x = .str i ∧ y = .str j ∧ i.length + j.length ≤ sizeLine ∧ Q (.str (i ++ j)) H)) addX := by
  intro F H σ en b x y dx dy rr Q eo rx ry e q
  cases dx with
  | int i =>
    cases dy with
    | int j =>
      cases rx; cases ry; cases e
      exact .inl (.inl ⟨i, j, rfl, rfl, q _ F H (fun _ _ => rfl) eo .refl (.int _) .no⟩)
    | _ => cases e
  | str i =>
    cases dy with
    | str j =>
      cases rx; cases ry
      obtain ⟨hc, rfl⟩ := iteSome e
      exact .inr (.inr ⟨i, j, rfl, rfl, hc, q _ F H (fun _ _ => rfl) eo .refl (.str _) .no⟩)
    | _ => cases e
  | list xs =>
    cases dy with
    | list ys =>
      cases rx with
      | lst f h r =>
        cases ry with
        | lst f2 h2 r2 =>
          obtain ⟨hc, rfl⟩ := iteSome e
          exact .inl (.inr ⟨_, _, _, _, rfl, rfl, h, h2, by rw [r.len, r2.len]; exact hc, fun p hp => newLst eo hp (r.append r2) fun g e1 s rk n => q _ F _ g e1 s rk n⟩)
    | _ => cases e
  | tuple xs =>
    cases dy with
    | tuple ys =>
      cases rx with
      | tup f h r =>
        cases ry with
        | tup f2 h2 r2 =>
          obtain ⟨hc, rfl⟩ := iteSome e
          refine .inr (.inl ⟨_, _, _, _, rfl, rfl, .of h, .of h2, by rw [r.len, r2.len]; exact hc, fun z => ?_, fun _ z => ?_, fun _ _ p hp => newTup eo hp (r.append r2) fun g e1 s rk => q _ _ _ g e1 s rk .no⟩)
          · subst z
            cases r
            exact q _ F H (fun _ _ => rfl) eo .refl (.tup f2 h2 r2) .no
          · subst z
            cases r2
            rw [List.append_nil] at q
            exact q _ F H (fun _ _ => rfl) eo .refl (.tup f h r) .no
    | _ => cases e
  | _ => cases e
def mulOk (i j : Int) : Bool := decide ((-(2 ^ 64) < i ∧ i < 2 ^ 64) ∨ (-(2 ^ 64) < j ∧ j < 2 ^ 64))
def mulX : D → D → Option (Bool × D)
  | .int i, .int j => if mulOk i j then some (false, .int (i * j)) else none
  | .list xs, .int k => if decide (-(2 ^ 63) ≤ k) && decide (k < 2 ^ 63) && decide (xs.length * k.toNat ≤ sizeLine) then some (true, .list (List.replicate k.toNat xs).flatten) else none
  | _, _ => none
theorem op_mulX' : OpR X (binaryOp .Mult) (fun x y H Q => rI CMul (fun i j => .int (i * j)) x y H Q ∨ rRep x y H Q) := op_mul.or op_rep
theorem mulX_ok : BinS L (fun x y H Q => rI CMul (fun i j => .int (i * j)) x y H Q ∨ rRep x y H Q) mulX := by
  intro F H σ en b x y dx dy rr Q eo rx ry e q
  cases dx with
  | int i =>
    cases dy with
    | int j =>
      cases rx; cases ry
      obtain ⟨hc, rfl⟩ := iteSome e
      exact .inl ⟨i, j, rfl, rfl, of_decide_eq_true (p := (-(2 ^ 64) < i ∧ i < 2 ^ 64) ∨ (-(2 ^ 64) < j ∧ j < 2 ^ 64)) hc, q _ F H (fun _ _ => rfl) eo .refl (.int _) .no⟩
    | _ => cases e
  | list xs =>
    cases dy with
    | int k =>
      cases ry
      cases rx with
      | lst f h r =>
        obtain ⟨hc, rfl⟩ := iteSome e
        simp only [Bool.and_eq_true, decide_eq_true_eq] at hc
        obtain ⟨⟨c1, c2⟩, c3⟩ := hc
        exact .inr ⟨_, k, _, rfl, rfl, h, c1, c2, by rw [r.len]; exact c3, fun p hp => newLst eo hp (r.rep k.toNat) fun g e1 s rk n => q _ F _ g e1 s rk n⟩
    | _ => cases e
  | _ => cases e

/-! ### whole numbers -/
/-- an operator of two ints, where C holds -/
def iOp (C : Int → Int → Bool) (g : Int → Int → Int) : D → D → Option D
  | .int i, .int j => if C i j then some (.int (g i j)) else none
  | _, _ => none
def cOp (g : Int → Int → Bool) : D → D → Option D
  | .int i, .int j => some (.bool (g i j))
  | _, _ => none
theorem iOp_ok {C : Int → Int → Bool} {P : Int → Int → Prop} {g : Int → Int → Int} (h : ∀ i j, C i j = true → P i j) : BinD L (rI P fun i j => .int (g i j)) (iOp C g) := by
  intro F H x y dx dy rr Q rx ry e q
  cases dx with
  | int i =>
    cases dy with
    | int j =>
      cases rx; cases ry
      obtain ⟨hc, rfl⟩ := iteSome e
      exact ⟨i, j, rfl, rfl, h i j hc, q _ (.int _)⟩
    | _ => cases e
  | _ => cases e
theorem iOp_ok0 {g : Int → Int → Int} : BinD L (rI0 fun i j => .int (g i j)) (iOp (fun _ _ => true) g) := by
  intro F H x y dx dy rr Q rx ry e q
  cases dx with
  | int i =>
    cases dy with
    | int j =>
      cases rx; cases ry; cases e
      exact ⟨i, j, rfl, rfl, q _ (.int _)⟩
    | _ => cases e
  | _ => cases e
theorem cOp_ok {g : Int → Int → Bool} : BinD L (rI0 fun i j => .bl (g i j)) (cOp g) := by
  intro F H x y dx dy rr Q rx ry e q
  cases dx with
  | int i =>
    cases dy with
    | int j =>
      cases rx; cases ry; cases e
      exact ⟨i, j, rfl, rfl, q _ (.bl _)⟩
    | _ => cases e
  | _ => cases e
def subD := iOp (fun _ _ => true) fun i j => i - j
def modD := iOp (fun _ j => decide (0 < j)) fun i j => i % j
def fdivD := iOp (fun _ j => decide (0 < j) && decide (j.natAbs.log2 < 9000)) fun i j => i / j
def powD := iOp (fun i j => decide (0 ≤ j) && decide (j ≤ 1000000) && decide (i.natAbs < 2 ^ 64)) fun i j => i ^ j.toNat
def shlD := iOp (fun i j => decide (0 ≤ j) && decide (j ≤ 1000000) && decide (i.natAbs < 2 ^ 64)) fun i j => i * 2 ^ j.toNat
def shrD := iOp (fun _ j => decide (0 ≤ j)) fun i j => i / 2 ^ j.toNat
def andD := iOp (fun _ _ => true) Builtin.bitAnd
def orD := iOp (fun _ _ => true) Builtin.bitOr
def xorD := iOp (fun _ _ => true) Builtin.bitXor
variable {a c : Expr} {f g : M D} {pos : Pos}
theorem re_sub (ha : RE X L W a f) (hb : RE X L W c g) : RE X L W (.BinOp a .Sub c pos) (binD subD f g) := re_binD (pe_op op_sub ha hb) iOp_ok0
theorem re_mod (ha : RE X L W a f) (hb : RE X L W c g) : RE X L W (.BinOp a .Mod c pos) (binD modD f g) := re_binD (pe_op op_mod ha hb) (iOp_ok fun _ _ h => of_decide_eq_true h)
theorem re_fdiv (ha : RE X L W a f) (hb : RE X L W c g) : RE X L W (.BinOp a .FloorDiv c pos) (binD fdivD f g) := re_binD (pe_op op_fdivW ha hb) (iOp_ok fun _ _ h => by simpa [CDivW] using h)
theorem re_pow (ha : RE X L W a f) (hb : RE X L W c g) : RE X L W (.BinOp a .Pow c pos) (binD powD f g) := re_binD (pe_op op_pow ha hb) (iOp_ok fun _ _ h => by simpa [CPow, and_assoc] using h)
theorem re_shl (ha : RE X L W a f) (hb : RE X L W c g) : RE X L W (.BinOp a .LShift c pos) (binD shlD f g) := re_binD (pe_op op_shl ha hb) (iOp_ok fun _ _ h => by simpa [CPow, and_assoc] using h)
theorem re_shr (ha : RE X L W a f) (hb : RE X L W c g) : RE X L W (.BinOp a .RShift c pos) (binD shrD f g) := re_binD (pe_op op_shr ha hb) (iOp_ok fun _ _ h => of_decide_eq_true h)
theorem re_andB (ha : RE X L W a f) (hb : RE X L W c g) : RE X L W (.BinOp a .BitAnd c pos) (binD andD f g) := re_binD (pe_op op_and ha hb) iOp_ok0
theorem re_orB (ha : RE X L W a f) (hb : RE X L W c g) : RE X L W (.BinOp a .BitOr c pos) (binD orD f g) := re_binD (pe_op op_or ha hb) iOp_ok0
theorem re_xor (ha : RE X L W a f) (hb : RE X L W c g) : RE X L W (.BinOp a .BitXor c pos) (binD xorD f g) := re_binD (pe_op op_xor ha hb) iOp_ok0
theorem rx_add (ha : RE X L W a f) (hb : RE X L W c g) : RX X L W (.BinOp a .Add c pos) (binM addX f g) := rx_bin (pe_op op_addX ha hb) addX_ok
theorem rx_mul (ha : RE X L W a f) (hb : RE X L W c g) : RX X L W (.BinOp a .Mult c pos) (binM mulX f g) := rx_bin (pe_op op_mulX' ha hb) mulX_ok
theorem re_add (ha : RE X L W a f) (hb : RE X L W c g) : RE X L W (.BinOp a .Add c pos) (fz (binM addX f g)) := rx_fz (rx_add ha hb)
theorem re_mul (ha : RE X L W a f) (hb : RE X L W c g) : RE X L W (.BinOp a .Mult c pos) (fz (binM mulX f g)) := rx_fz (rx_mul ha hb)
def i1 (g : Int → Int) : D → Option (Bool × D)
  | .int i => some (false, .int (g i))
  | _ => none
theorem i1_ok {g : Int → Int} : UnS L (rU fun i => .int (g i)) (i1 g) := by
  intro F H σ en b x dx rr Q eo rx e q
  cases dx with
  | int i =>
    cases e
    rcases rx with rx | ⟨_, _, _, _, _, t⟩
    · cases rx
      exact ⟨i, rfl, q _ F H (fun _ _ => rfl) eo .refl (.int _) .no⟩
    · exact t.elim
  | _ => cases e
theorem re_neg (ha : RE X L W a f) : RE X L W (.UnaryOp .USub a pos) (fz (unM (i1 fun i => -i) f)) := rx_fz (rx_un (pe_un un_neg (re_pk ha)) i1_ok)
theorem re_inv (ha : RE X L W a f) : RE X L W (.UnaryOp .Invert a pos) (fz (unM (i1 Builtin.bitNot) f)) := rx_fz (rx_un (pe_un un_inv (re_pk ha)) i1_ok)

/-! ### comparisons -/
def ltD := cOp fun i j => decide (i < j)
def leD := cOp fun i j => decide (i ≤ j)
def gtD := cOp fun i j => decide (j < i)
def geD := cOp fun i j => decide (j ≤ i)
theorem re_lt (ha : RE X L W a f) (hb : RE X L W c g) : RE X L W (.Compare a [.Lt] [c] pos) (binD ltD f g) := re_binD (pe_cmpR op_lt ha hb (nomark _)) cOp_ok
theorem re_le (ha : RE X L W a f) (hb : RE X L W c g) : RE X L W (.Compare a [.LtE] [c] pos) (binD leD f g) := re_binD (pe_cmpR op_le ha hb (nomark _)) cOp_ok
theorem re_gt (ha : RE X L W a f) (hb : RE X L W c g) : RE X L W (.Compare a [.Gt] [c] pos) (binD gtD f g) := re_binD (pe_cmpR op_gt ha hb (nomark _)) cOp_ok
theorem re_ge (ha : RE X L W a f) (hb : RE X L W c g) : RE X L W (.Compare a [.GtE] [c] pos) (binD geD f g) := re_binD (pe_cmpR op_ge ha hb (nomark _)) cOp_ok
/-- any comparison as a test, from its operator's rule -/
theorem rt_cmp {op : CmpOp} {r : R2} {o : D → D → Option D} (ho : OpR X (compareOp op) r) (hs : BinD L r o) (ha : RE X L W a f) (hb : RE X L W c g) (hm : behindInMarks op c = false) : RT X L W (.Compare a [op] [c] pos) (bolM (binD o f g)) := by
  refine ptImp (pt_cmpR ho ha hb hm) fun σ H Q ⟨F, en, b, eo, q⟩ => ⟨F, en, b, eo, ?_⟩
  unfold bolM binD M.bind at q
  cases hf : f en b with
  | stuck => rw [hf] at q; exact q
  | exc x en' b' => rw [hf] at q; exact q
  | ok dx en' b' =>
    rw [hf] at q
    intro x F' H' l eo' rx
    refine ⟨F', en', b', eo', ?_⟩
    dsimp only at q
    cases hg : g en' b' with
    | stuck => rw [hg] at q; exact q
    | exc x en2 b2 =>
      rw [hg] at q
      exact fun F2 H2 cls dd l2 o2 x2 => q F2 H2 cls dd (l.le.trans l2) o2 x2
    | ok dy en2 b2 =>
      rw [hg] at q
      intro y F2 H2 l2 eo2 ry
      dsimp only [opt] at q
      cases ho : o dx dy with
      | none => rw [ho] at q; exact q.elim
      | some rr =>
        rw [ho] at q
        dsimp only at q
        refine hs F2 H2 x y dx dy rr _ (rx.mono l2.le) ry ho fun v rv => ?_
        cases rr with
        | bool k =>
          cases rv
          exact ⟨k, rfl, q F2 H2 (l.trans l2) eo2⟩
        | _ => exact q.elim
theorem rt_lt (ha : RE X L W a f) (hb : RE X L W c g) : RT X L W (.Compare a [.Lt] [c] pos) (bolM (binD ltD f g)) := rt_cmp op_lt cOp_ok ha hb (nomark _)
theorem rt_le (ha : RE X L W a f) (hb : RE X L W c g) : RT X L W (.Compare a [.LtE] [c] pos) (bolM (binD leD f g)) := rt_cmp op_le cOp_ok ha hb (nomark _)
theorem rt_gt (ha : RE X L W a f) (hb : RE X L W c g) : RT X L W (.Compare a [.Gt] [c] pos) (bolM (binD gtD f g)) := rt_cmp op_gt cOp_ok ha hb (nomark _)
theorem rt_ge (ha : RE X L W a f) (hb : RE X L W c g) : RT X L W (.Compare a [.GtE] [c] pos) (bolM (binD geD f g)) := rt_cmp op_ge cOp_ok ha hb (nomark _)
/-! == of any data without dicts -/
mutual
theorem Rep.dp {K : PySem.W.Frag} : ∀ {d : D} {v : V}, Rep L.β F H v d → d.canLay0 = true → Dp K H v d
  | .none, _, .non, _ => .non
  | .bool _, _, .bl b, _ => .bl b
  | .int _, _, .int i, _ => .int i
  | .str _, _, .str x, _ => .str x
  | .list ds, _, .lst f h r, e => .lst (.of h) (Reps.dp r (by simpa [PyData.canLay0] using e))
  | .tuple ds, _, .tup f h r, e => .tup (.of h) (Reps.dp r (by simpa [PyData.canLay0] using e))
  | .dict _, _, _, e => by simp [PyData.canLay0] at e
theorem Reps.dp {K : PySem.W.Frag} : ∀ {ds : List D} {vs : List V}, Reps L.β F H vs ds → PyData.canLayAll0 ds = true → DpAll K H vs ds
  | [], _, .nil, _ => .nil
  | d :: ds, _, .cons r q, e => by
    have e' : d.canLay0 = true ∧ PyData.canLayAll0 ds = true := by simpa [PyData.canLayAll0] using e
    exact .cons (Rep.dp r e'.1) (Reps.dp q e'.2)
end
def eqD : D → D → Option D
  | .str i, .str j => some (.bool (decide (i = j)))
  | x, y => if SeqAt.shaped x && SeqAt.shaped y then some (.bool (PyData.eqv x y)) else none
def neD : D → D → Option D
  | .str i, .str j => some (.bool (!decide (i = j)))
  | x, y => if SeqAt.shaped x && SeqAt.shaped y then some (.bool (!PyData.eqv x y)) else none
theorem eqD_cases (x y : D) : (∃ i j, x = .str i ∧ y = .str j) ∨ (eqD x y = (if SeqAt.shaped x && SeqAt.shaped y then some (.bool (PyData.eqv x y)) else none) ∧ neD x y = (if SeqAt.shaped x && SeqAt.shaped y then some (.bool (!PyData.eqv x y)) else none)) := by
  cases x with
  | str i =>
    cases y with
    | str j => exact .inl ⟨i, j, rfl, rfl⟩
    | _ => exact .inr ⟨rfl, rfl⟩
  | _ => exact .inr ⟨rfl, rfl⟩
theorem dec_str' (i j : Str) : decide (V.str i = V.str j) = decide (i = j) := by
  by_cases h : i = j
  · subst h
    rw [decide_eq_true rfl, decide_eq_true rfl]
  · rw [decide_eq_false h, decide_eq_false fun e => h (V.str.inj e)]
theorem eqD_ok : BinD L (fun x y H Q => rEq x y H Q ∨ rEqD X.K x y H Q) eqD := by
  intro F H x y dx dy rr Q rx ry e q
  rcases eqD_cases dx dy with ⟨i, j, rfl, rfl⟩ | ⟨h, _⟩
  · cases rx
    cases ry
    cases e
    exact .inl ⟨rfl, by rw [dec_str']; exact q _ (.bl _)⟩
  · rw [h] at e
    obtain ⟨hc, rfl⟩ := iteSome e
    obtain ⟨h1, h2⟩ := Bool.and_eq_true_iff.mp hc
    exact .inr ⟨dx, dy, rx.dp (SeqAt.canLay_of_shaped h1), ry.dp (SeqAt.canLay_of_shaped h2), h1, h2, q _ (.bl _)⟩
theorem neD_ok : BinD L (fun x y H Q => rNe x y H Q ∨ rNeD X.K x y H Q) neD := by
  intro F H x y dx dy rr Q rx ry e q
  rcases eqD_cases dx dy with ⟨i, j, rfl, rfl⟩ | ⟨_, h⟩
  · cases rx
    cases ry
    cases e
    exact .inl ⟨rfl, by rw [dec_str']; exact q _ (.bl _)⟩
  · rw [h] at e
    obtain ⟨hc, rfl⟩ := iteSome e
    obtain ⟨h1, h2⟩ := Bool.and_eq_true_iff.mp hc
    exact .inr ⟨dx, dy, rx.dp (SeqAt.canLay_of_shaped h1), ry.dp (SeqAt.canLay_of_shaped h2), h1, h2, q _ (.bl _)⟩
theorem re_eq (hu : X.A.units + 64 < cLine) (ha : RE X L W a f) (hb : RE X L W c g) : RE X L W (.Compare a [.Eq] [c] pos) (binD eqD f g) := re_binD (pe_cmpR (op_eq.or (op_eqD hu)) ha hb (nomark _)) eqD_ok
theorem re_ne (hu : X.A.units + 64 < cLine) (ha : RE X L W a f) (hb : RE X L W c g) : RE X L W (.Compare a [.NotEq] [c] pos) (binD neD f g) := re_binD (pe_cmpR (op_ne.or (op_neD hu)) ha hb (nomark _)) neD_ok
theorem rt_eq (hu : X.A.units + 64 < cLine) (ha : RE X L W a f) (hb : RE X L W c g) : RT X L W (.Compare a [.Eq] [c] pos) (bolM (binD eqD f g)) := rt_cmp (op_eq.or (op_eqD hu)) eqD_ok ha hb (nomark _)
theorem rt_ne (hu : X.A.units + 64 < cLine) (ha : RE X L W a f) (hb : RE X L W c g) : RT X L W (.Compare a [.NotEq] [c] pos) (bolM (binD neD f g)) := rt_cmp (op_ne.or (op_neD hu)) neD_ok ha hb (nomark _)
/-- is None, is not None -/
def isN : D → D → Option D
  | x, .none => some (.bool (match x with | .none => true | _ => false))
  | _, _ => none
def notN : D → D → Option D
  | x, .none => some (.bool (match x with | .none => false | _ => true))
  | _, _ => none
theorem isN_ok : BinD L (fun x y H Q => y = .non ∧ Q (.bl (decide (x = .non))) H) isN := by
  intro F H x y dx dy rr Q rx ry e q
  cases dy with
  | none =>
    cases ry; cases e
    refine ⟨rfl, q _ ?_⟩
    cases rx <;> exact .bl _
  | _ => cases e
theorem notN_ok : BinD L (fun x y H Q => y = .non ∧ Q (.bl (!decide (x = .non))) H) notN := by
  intro F H x y dx dy rr Q rx ry e q
  cases dy with
  | none =>
    cases ry; cases e
    refine ⟨rfl, q _ ?_⟩
    cases rx <;> exact .bl _
  | _ => cases e
theorem re_is (ha : RE X L W a f) (hb : RE X L W c g) : RE X L W (.Compare a [.Is] [c] pos) (binD isN f g) := re_binD (pe_cmpR op_isN ha hb (nomark _)) isN_ok
theorem re_isnot (ha : RE X L W a f) (hb : RE X L W c g) : RE X L W (.Compare a [.IsNot] [c] pos) (binD notN f g) := re_binD (pe_cmpR op_notN ha hb (nomark _)) notN_ok
theorem rt_is (ha : RE X L W a f) (hb : RE X L W c g) : RT X L W (.Compare a [.Is] [c] pos) (bolM (binD isN f g)) := rt_cmp op_isN isN_ok ha hb (nomark _)
theorem rt_isnot (ha : RE X L W a f) (hb : RE X L W c g) : RT X L W (.Compare a [.IsNot] [c] pos) (bolM (binD notN f g)) := rt_cmp op_notN notN_ok ha hb (nomark _)
end
end PL
namespace PL
open PySem PySem.Spec PyProof.Rows L2

section
variable {X : Cx} {L : Lo} {W : WX} {F : Addr → Prop} {H : Hp} {σ : St} {en : SE} {b : Bg}
variable {a c e : Expr} {f g : M D} {pos : Pos}
/-- a list or a tuple, as it stands -/
theorem Pk.seq {v : V} {d : D} {ds : List D} {K : PySem.W.Frag} (h : Pk L F H σ en v d) (e : d = .list ds ∨ d = .tuple ds) :
    ∃ p xs, v = .ref p ∧ Reps L.β F H xs ds ∧ ((d = .list ds ∧ H p = some (.lst xs)) ∨ (d = .tuple ds ∧ H p = some (.tup xs))) := by
  rcases h with h | ⟨i, p, rfl, _, _, t⟩
  · rcases e with rfl | rfl
    · cases h with
      | lst f h r => exact ⟨_, _, rfl, r, .inl ⟨rfl, h⟩⟩
    · cases h with
      | tup f h r => exact ⟨_, _, rfl, r, .inr ⟨rfl, h⟩⟩
  · rcases e with rfl | rfl
    · obtain ⟨xs, h, r⟩ := t
      exact ⟨p, xs, rfl, r, .inl ⟨rfl, h⟩⟩
    · exact t.elim
theorem rep_pk {v : V} {d : D} (h : Rep L.β F H v d) : Pk L F H σ en v d := .inl h

/-! ### subscripts -/
theorem atI_rep {xs : List V} {ds : List D} {i : Int} {x : D} (r : Reps L.β F H xs ds) (e : atI ds i = some x) : ∃ y, atI xs i = some y ∧ Rep L.β F H y x := by
  unfold atI at e ⊢
  rw [r.len]
  cases h : ixN ds.length i with
  | none => rw [h] at e; cases e
  | some j =>
    rw [h] at e
    exact r.get e
def ixD : D → D → Option D
  | .list ds, .int i => atI ds i
  | .tuple ds, .int i => atI ds i
  | .str z, .int i => if z.length ≤ sizeLine then (atI z.cps.toList i).map fun c => .str ⟨#[c]⟩ else none
  | _, _ => none
theorem ix_pk {x y : V} {dx dy rr : D} {Q : VK} (rx : Pk L F H σ en x dx) (ry : Rep L.β F H y dy) (e : ixD dx dy = some rr) (q : ∀ v, Rep L.β F H v rr → Q v H) : rIx X.K x y H Q := by
  cases dx with
  | list ds =>
    cases dy with
    | int i =>
      cases ry
      obtain ⟨p, xs, rfl, r, h | h⟩ := rx.seq (K := X.K) (.inl rfl)
      · obtain ⟨z, hz, rz⟩ := atI_rep r e
        exact .inl ⟨p, xs, i, z, rfl, rfl, .of h.2, hz, q _ rz⟩
      · cases h.1
    | _ => cases e
  | tuple ds =>
    cases dy with
    | int i =>
      cases ry
      obtain ⟨p, xs, rfl, r, h | h⟩ := rx.seq (K := X.K) (.inr rfl)
      · cases h.1
      · obtain ⟨z, hz, rz⟩ := atI_rep r e
        exact .inr (.inl ⟨p, xs, i, z, rfl, rfl, .of h.2, hz, q _ rz⟩)
    | _ => cases e
  | str z =>
    cases dy with
    | int i =>
      cases ry
      obtain ⟨hz, e⟩ : z.length ≤ sizeLine ∧ (atI z.cps.toList i).map (fun c => PyData.str ⟨#[c]⟩) = some rr := by
        have e' : (if z.length ≤ sizeLine then (atI z.cps.toList i).map (fun c => PyData.str ⟨#[c]⟩) else none) = some rr := e
        split at e'
        · exact ⟨by assumption, e'⟩
        · cases e'
      cases hc : atI z.cps.toList i with
      | none => rw [hc] at e; cases e
      | some c =>
        rw [hc] at e
        cases e
        rcases rx with rx | ⟨_, _, _, _, _, t⟩
        · cases rx
          exact .inr (.inr ⟨z, i, c, rfl, rfl, hz, hc, q _ (.str _)⟩)
        · exact t.elim
    | _ => cases e
  | _ => cases e
theorem re_ix (ha : RE X L W a f) (hb : RE X L W c g) (hs : PlainIx c := by exact fun _ _ => rfl) : RE X L W (.Subscript a c pos) (binD ixD f g) :=
  re_binD (pe_ix ix_seq ha hb hs) fun F H x y dx dy rr Q rx ry e q => ix_pk (L := L) (σ := []) (en := []) (rep_pk rx) ry e q
/-- the name's value, and what stands at it -/
theorem pk_at (eo : EO L F H σ en b) {i : Nat} {d : D} (h : pk i en b = .ok d en b) : ∃ v, σ[i]? = some (some v) ∧ Pk L F H σ en v d := by
  rcases nm_cases i en b with ⟨d', hd⟩ | ⟨d', hd⟩ | ⟨_, hd⟩
  · rw [pk_some hd] at h
    cases h
    obtain ⟨p, h1, w⟩ := eo.ow i _ hd
    exact ⟨_, h1, .inr ⟨i, p, rfl, hd, h1, w.top⟩⟩
  · rw [pk_some hd] at h
    cases h
    obtain ⟨v, h1, r⟩ := eo.sl i _ hd
    exact ⟨v, h1, .inl r⟩
  · rw [hd] at h
    cases h
theorem pk_ok (i : Nat) (en : SE) (b : Bg) : (∃ d, pk i en b = .ok d en b) ∨ pk i en b = .stuck := by
  rcases nm_cases i en b with ⟨d', hd⟩ | ⟨d', hd⟩ | ⟨_, hd⟩
  · exact .inl ⟨_, pk_some hd⟩
  · exact .inl ⟨_, pk_some hd⟩
  · exact .inr hd
/-- x[e], x a name: its list may be changed later -/
def ixNm (i : Nat) (g : M D) : M D := (pk i).bind fun _ => g.bind fun y => (pk i).bind fun x => opt (ixD x y)
theorem re_ixN {i : Nat} (ha : PE X a (tVar i)) (hb : RE X L W c g) (hs : PlainIx c := by exact fun _ _ => rfl) : RE X L W (.Subscript a c pos) (ixNm i g) := peImp (pe_ix ix_seq ha hb hs) fun σ H Q ⟨F, en, b, eo, q⟩ => by
  unfold ixNm M.bind at q
  rcases pk_ok i en b with ⟨d0, h0⟩ | h0
  · rw [h0] at q
    dsimp only at q
    obtain ⟨v, hv, _⟩ := pk_at eo h0
    refine ⟨v, hv, F, en, b, eo, ?_⟩
    cases hg : g en b with
    | stuck => rw [hg] at q; exact q
    | exc x en' b' => rw [hg] at q; exact q
    | ok dy en' b' =>
      rw [hg] at q
      intro y F' H' l eo' ry
      dsimp only at q
      rcases pk_ok i en' b' with ⟨d, hd⟩ | hd
      · rw [hd] at q
        dsimp only [opt] at q
        obtain ⟨v', h1, rv⟩ := pk_at eo' hd
        rw [hv] at h1
        cases h1
        cases ho : ixD d dy with
        | none => rw [ho] at q; exact q.elim
        | some rr =>
          rw [ho] at q
          exact ix_pk rv ry ho fun v rv => q v F' H' l eo' rv
      · rw [hd] at q
        exact q.elim
  · rw [h0] at q
    exact q.elim
/-! slices, behind their bounds -/
def cutD (xs : List D) (lo hi : Option Int) : List D := (xs.drop (HT.sIx xs.length 0 lo)).take (HT.sIx xs.length xs.length hi - HT.sIx xs.length 0 lo)
theorem cut_rep {xs : List V} {ds : List D} (r : Reps L.β F H xs ds) (lo hi : Option Int) : Reps L.β F H (cutV xs lo hi) (cutD ds lo hi) := by
  unfold cutV cutD
  rw [r.len]
  exact (r.drop _).take _
abbrev PM := Option (M D)
def ptM : PM → M (Option Int)
  | none => M.ret none
  | some f => f.bind fun x => match x with
    | .int i => M.ret (some i)
    | _ => stk
def tPo (L : Lo) (W : WX) (f : M (Option Int)) : TO := fun σ H Q => ∃ F en b, EO L F H σ en b ∧ match f en b with
  | .stuck => False
  | .ok r en' b' => ∀ F' H', Stp L σ F H en F' H' en' → EO L F' H' σ en' b' → Q r H'
  | .exc x en' b' => ∀ F' H' cls dd, Le F H F' H' → EO L F' H' σ en' b' → L.exr x cls dd H' → W cls dd σ H'
theorem poImp {eo : Option Expr} {t t' : TO} (h : PO X eo t) (i : ∀ σ H Q, t' σ H Q → t σ H Q) : PO X eo t' := ⟨fun pins s σ H Q I q => h.run pins s σ H Q I (i _ _ _ q)⟩
theorem ro_none : PO X none (tPo L W (ptM none)) := poImp po_none fun σ H Q ⟨F, en, b, eo, q⟩ => q F H .refl eo
theorem ro_some (h : RE X L W e f) : PO X (some e) (tPo L W (ptM (some f))) := poImp (po_some h) fun σ H Q ⟨F, en, b, eo, q⟩ => ⟨F, en, b, eo, by
  unfold ptM M.bind M.ret at q
  dsimp only at q
  cases hf : f en b with
  | stuck => rw [hf] at q; exact q
  | exc x en' b' => rw [hf] at q; exact q
  | ok dx en' b' =>
    rw [hf] at q
    intro x F' H' l eo' rx
    cases dx with
    | int i =>
      cases rx
      exact ⟨i, rfl, q F' H' l eo'⟩
    | _ => exact q.elim⟩
def slX (x : D) (lo hi : Option Int) : Option (Bool × D) := match x with
  | .list ds => some (true, .list (cutD ds lo hi))
  | .tuple ds => some (false, .tuple (cutD ds lo hi))
  | _ => none
def slM (f : M D) (lo hi : PM) : M (Bool × D) := f.bind fun x => (ptM lo).bind fun l => (ptM hi).bind fun h => opt (slX x l h)
theorem rx_sl {lo hi : Option Expr} {pl ph : PM} {p2 : Pos} (ha : RE X L W a f) (hl : PO X lo (tPo L W (ptM pl))) (hh : PO X hi (tPo L W (ptM ph))) : RX X L W (.Subscript a (.Slice lo hi none p2) pos) (slM f pl ph) :=
  peImp (pe_slice (sl_list.or sl_tupA) ha hl hh) fun σ H Q ⟨F, en, b, eo, q⟩ => ⟨F, en, b, eo, by
    unfold slM M.bind at q
    cases hf : f en b with
    | stuck => rw [hf] at q; exact q
    | exc x en' b' => rw [hf] at q; exact q
    | ok dx en' b' =>
      rw [hf] at q
      intro x F' H' l eo' rx
      refine ⟨F', en', b', eo', ?_⟩
      dsimp only at q
      cases hg : ptM pl en' b' with
      | stuck => rw [hg] at q; exact q
      | exc x en2 b2 => rw [hg] at q; exact fun F2 H2 cls dd l2 o2 x2 => q F2 H2 cls dd (l.le.trans l2) o2 x2
      | ok dl en2 b2 =>
        rw [hg] at q
        intro F2 H2 l2 eo2
        refine ⟨F2, en2, b2, eo2, ?_⟩
        dsimp only at q
        cases hk : ptM ph en2 b2 with
        | stuck => rw [hk] at q; exact q
        | exc x en3 b3 => rw [hk] at q; exact fun F3 H3 cls dd l3 o3 x3 => q F3 H3 cls dd ((l.trans l2).le.trans l3) o3 x3
        | ok dh en3 b3 =>
          rw [hk] at q
          intro F3 H3 l3 eo3
          dsimp only [opt] at q
          have rx3 := (rx.mono l2.le).mono l3.le
          have back : ∀ {v : V} {r : Bool × D}, ResNew H3 v r → ResNew H v r := fun n => ((n.back l3).back l2).back l
          cases dx with
          | list ds =>
            cases rx3 with
            | lst f h r => exact .inl ⟨_, _, rfl, .of h, fun p hp => newLst eo3 hp (cut_rep (L := L) r dl dh) fun g e1 s rk n => q _ _ _ (((l.trans l2).trans l3).trans s) e1 rk (back n)⟩
          | tuple ds =>
            cases rx3 with
            | @tup pt xt _ f h r =>
              refine .inr ⟨_, _, rfl, .of h, fun w => ?_, fun _ p hp => newTup eo3 hp (cut_rep (L := L) r dl dh) fun g e1 s rk => q _ _ _ (((l.trans l2).trans l3).trans s) e1 rk .no⟩
              rw [r.len] at w
              have ec : cutD ds dl dh = ds := by
                unfold cutD
                rw [w.1, w.2, Nat.sub_zero, List.drop_zero, List.take_length]
              have q' := q (.ref pt) F3 H3 ((l.trans l2).trans l3) eo3
              rw [ec] at q'
              exact q' (.tup f h r) .no
          | _ => exact q.elim⟩

/-! ### displays -/
def tupM (g : M (List D)) : M D := g.bind fun xs => if xs.length ≤ sizeLine then M.ret (.tuple xs) else stk
def lstM (g : M (List D)) : M (Bool × D) := g.bind fun xs => if xs.length ≤ sizeLine then M.ret (true, .list xs) else stk
theorem re_tup {es : List Expr} {g : M (List D)} {k} (h : RA X L W es g) : RE X L W (.Tuple es k pos) (tupM g) := peImp (pe_tup h) fun σ H Q ⟨F, en, b, eo, q⟩ => ⟨F, en, b, eo, by
  unfold tupM M.bind at q
  cases hf : g en b with
  | stuck => rw [hf] at q; exact q
  | exc x en' b' => rw [hf] at q; exact q
  | ok xs en' b' =>
    rw [hf] at q
    intro vs F' H' l eo' rs
    dsimp only at q
    by_cases hz : xs.length ≤ sizeLine
    · rw [if_pos hz] at q
      exact ⟨by rw [rs.len]; exact hz, fun p hp => newTup eo' hp rs fun g e1 s rk => q _ _ _ (l.trans s) e1 rk⟩
    · rw [if_neg hz] at q
      exact q.elim⟩
theorem rx_lst {es : List Expr} {g : M (List D)} (h : RA X L W es g) : RX X L W (.List es pos) (lstM g) := peImp (pe_lst h) fun σ H Q ⟨F, en, b, eo, q⟩ => ⟨F, en, b, eo, by
  unfold lstM M.bind at q
  cases hf : g en b with
  | stuck => rw [hf] at q; exact q
  | exc x en' b' => rw [hf] at q; exact q
  | ok xs en' b' =>
    rw [hf] at q
    intro vs F' H' l eo' rs
    dsimp only at q
    by_cases hz : xs.length ≤ sizeLine
    · rw [if_pos hz] at q
      exact ⟨by rw [rs.len]; exact hz, fun p hp => newLst eo' hp rs fun g e1 s rk n => q _ _ _ (l.trans s) e1 rk (n.back l)⟩
    · rw [if_neg hz] at q
      exact q.elim⟩

/-! ### built-ins of one argument, which may stand at a name -/
variable {p : Pos} {x : Str}
/-- r, of one value, gives what o gives -/
def OneS (L : Lo) (r : List V → Hp → VK → Prop) (o : D → Option (Bool × D)) : Prop :=
  ∀ F H σ en b x dx rr (Q : VK), EO L F H σ en b → Pk L F H σ en x dx → o dx = some rr →
    (∀ v F' H', Gr H H' → EO L F' H' σ en b → Stp L σ F H en F' H' en → ResOk L F' H' σ en v rr → ResNew H v rr → Q v H') → r [x] H Q
theorem rx_one {r : List V → Hp → VK → Prop} {o : D → Option (Bool × D)} (h : PE X e (tCB r (tCons (tP L W f) tNil))) (hs : OneS L r o) : RX X L W e (unM o f) := peImp h fun σ H Q ⟨F, en, b, eo, q⟩ => ⟨F, en, b, eo, by
  unfold unM M.bind at q
  cases hf : f en b with
  | stuck => rw [hf] at q; exact q
  | exc x en' b' => rw [hf] at q; exact q
  | ok dx en' b' =>
    rw [hf] at q
    intro x F' H' l eo' rx
    dsimp only [opt] at q
    cases ho : o dx with
    | none => rw [ho] at q; exact q.elim
    | some rr =>
      rw [ho] at q
      exact hs F' H' σ en' b' x dx rr Q eo' rx ho fun v F3 H3 g3 eo3 l3 rv n3 => q v F3 H3 (l.trans l3) eo3 rv (n3.back l)⟩
theorem rx_b1 {id : String} {r : List V → Hp → VK → Prop} {o : D → Option (Bool × D)} (hc : CallR X (.builtin id) r) (hs : OneS L r o) (hv : bootBuiltins x = some (.builtin id)) (ha : RP X L W a f) (hg : Gl X x) (hm : X.mg x = none) (hn : x ≠ "__name__" := by decide) (hdb : (x == ("__debug__" : Str)) = false := by decide)
    (hst : starEach [a] X.env = (false, eval a X.env) :: starEach [] X.env := by rfl) (hpl : (backTo pos (starEach [] X.env)).any (·.1) = false := by rfl) : RX X L W (.Call (.Name x p) [a] [] pos) (unM o f) :=
  rx_one (pe_callB hc hg hm hv (pa_cons ha pa_nil hst) hn hdb hst hpl) hs
theorem rx_t1 {T : String} {r : List V → Hp → VK → Prop} {o : D → Option (Bool × D)} (hc : CallR X (.type T) r) (hs : OneS L r o) (hv : bootBuiltins x = some (.type T)) (ha : RP X L W a f) (hg : Gl X x) (hm : X.mg x = none) (hn : x ≠ "__name__" := by decide) (hdb : (x == ("__debug__" : Str)) = false := by decide)
    (hst : starEach [a] X.env = (false, eval a X.env) :: starEach [] X.env := by rfl) (hpl : (backTo pos (starEach [] X.env)).any (·.1) = false := by rfl) : RX X L W (.Call (.Name x p) [a] [] pos) (unM o f) :=
  rx_one (pe_callTy hc hg hm hv (pa_cons ha pa_nil hst) hn hdb hst hpl) hs
/-- len -/
def lenD : D → Option (Bool × D)
  | .list ds => some (false, .int ds.length)
  | .tuple ds => some (false, .int ds.length)
  | .str z => if z.length ≤ sizeLine then some (false, .int z.length) else none
  | .dict kvs => if (.dict kvs : D).canLay0 then none else none
  | _ => none
theorem lenD_ok : OneS L (fun xs H Q => (∃ p ys, xs = [.ref p] ∧ (SqL X.K H p ys ∨ SqT X.K H p ys) ∧ Q (.int ys.length) H) ∨ ∃ z, xs = [.str z] ∧ z.length ≤ sizeLine ∧ Q (.int z.length) H) lenD := by
  intro F H σ en b x dx rr Q eo rx e q
  have go : ∀ v, ResOk L F H σ en v rr → rr.1 = false → Q v H := fun v r h => q v F H (fun _ _ => rfl) eo .refl r fun z => by rw [h] at z; cases z
  cases dx with
  | list ds =>
    cases e
    obtain ⟨p, xs, rfl, r, h | h⟩ := rx.seq (K := X.K) (.inl rfl)
    · exact .inl ⟨p, xs, rfl, .inl (.of h.2), by rw [r.len]; exact go _ (.int _) rfl⟩
    · cases h.1
  | tuple ds =>
    cases e
    obtain ⟨p, xs, rfl, r, h | h⟩ := rx.seq (K := X.K) (.inr rfl)
    · cases h.1
    · exact .inl ⟨p, xs, rfl, .inr (.of h.2), by rw [r.len]; exact go _ (.int _) rfl⟩
  | str z =>
    obtain ⟨hc, rfl⟩ := iteSome e
    rcases rx with rx | ⟨_, _, _, _, _, t⟩
    · cases rx
      exact .inr ⟨z, rfl, hc, go _ (.int _) rfl⟩
    · exact t.elim
  | dict kvs =>
    have e' : (if (.dict kvs : D).canLay0 = true then (none : Option (Bool × D)) else none) = some rr := e
    rw [ite_self] at e'
    cases e'
  | _ => cases e
theorem re_len (ha : RP X L W a f) (hg : Gl X "len") (hm : X.mg "len" = none) (hst : starEach [a] X.env = (false, eval a X.env) :: starEach [] X.env := by rfl) (hpl : (backTo pos (starEach [] X.env)).any (·.1) = false := by rfl) :
    RE X L W (.Call (.Name "len" p) [a] [] pos) (fz (unM lenD f)) := rx_fz (rx_b1 (call_len_seq.or call_len_str) lenD_ok boot_len ha hg hm (by decide) (by decide) hst hpl)
/-- tuple, list of a list or a tuple -/
def tupOf : D → Option (Bool × D)
  | .list ds => some (false, .tuple ds)
  | .tuple ds => some (false, .tuple ds)
  | _ => none
def lstOf : D → Option (Bool × D)
  | .list ds => some (true, .list ds)
  | .tuple ds => some (true, .list ds)
  | _ => none
theorem tupOf_ok : OneS L (fun xs H Q => ∃ p ys, xs = [.ref p] ∧ ((SqL X.K H p ys ∧ ∀ l, H l = none → Q (.ref l) (upd H l (.tup ys))) ∨ (SqT X.K H p ys ∧ Q (.ref p) H))) tupOf := by
  intro F H σ en b x dx rr Q eo rx e q
  cases dx with
  | list ds =>
    cases e
    obtain ⟨p, xs, rfl, r, h | h⟩ := rx.seq (K := X.K) (.inl rfl)
    · exact ⟨p, xs, rfl, .inl ⟨.of h.2, fun l hl => newTup eo hl r fun g e1 s rk => q _ _ _ g e1 s rk .no⟩⟩
    · cases h.1
  | tuple ds =>
    cases e
    rcases rx with rx | ⟨_, _, _, _, _, t⟩
    · cases rx with
      | tup f h r => exact ⟨_, _, rfl, .inr ⟨.of h, q _ F H (fun _ _ => rfl) eo .refl (.tup f h r) .no⟩⟩
    · exact t.elim
  | _ => cases e
theorem lstOf_ok : OneS L (fun xs H Q => ∃ p ys, xs = [.ref p] ∧ (SqL X.K H p ys ∨ SqT X.K H p ys) ∧ ∀ l, H l = none → Q (.ref l) (upd H l (.lst ys))) lstOf := by
  intro F H σ en b x dx rr Q eo rx e q
  cases dx with
  | list ds =>
    cases e
    obtain ⟨p, xs, rfl, r, h | h⟩ := rx.seq (K := X.K) (.inl rfl)
    · exact ⟨p, xs, rfl, .inl (.of h.2), fun l hl => newLst eo hl r fun g e1 s rk n => q _ _ _ g e1 s rk n⟩
    · cases h.1
  | tuple ds =>
    cases e
    obtain ⟨p, xs, rfl, r, h | h⟩ := rx.seq (K := X.K) (.inr rfl)
    · cases h.1
    · exact ⟨p, xs, rfl, .inr (.of h.2), fun l hl => newLst eo hl r fun g e1 s rk n => q _ _ _ g e1 s rk n⟩
  | _ => cases e
theorem re_tuple (ha : RP X L W a f) (hg : Gl X "tuple") (hm : X.mg "tuple" = none) (hst : starEach [a] X.env = (false, eval a X.env) :: starEach [] X.env := by rfl) (hpl : (backTo pos (starEach [] X.env)).any (·.1) = false := by rfl) :
    RE X L W (.Call (.Name "tuple" p) [a] [] pos) (fz (unM tupOf f)) := rx_fz (rx_t1 call_tuple_of tupOf_ok boot_tuple ha hg hm (by decide) (by decide) hst hpl)
theorem rx_list (ha : RP X L W a f) (hg : Gl X "list") (hm : X.mg "list" = none) (hst : starEach [a] X.env = (false, eval a X.env) :: starEach [] X.env := by rfl) (hpl : (backTo pos (starEach [] X.env)).any (·.1) = false := by rfl) :
    RX X L W (.Call (.Name "list" p) [a] [] pos) (unM lstOf f) := rx_t1 call_list_of lstOf_ok boot_list ha hg hm (by decide) (by decide) hst hpl
/-- sum, max, min of ints, any, all of bools, in a list -/
def intsOf : List D → Option (List Int)
  | [] => some []
  | .int i :: r => (intsOf r).map (i :: ·)
  | _ :: _ => none
def blsOf : List D → Option (List Bool)
  | [] => some []
  | .bool i :: r => (blsOf r).map (i :: ·)
  | _ :: _ => none
theorem ints_rep : ∀ {ds : List D} {vs : List V} {ns : List Int}, Reps L.β F H vs ds → intsOf ds = some ns → vs = ns.map V.int
  | _, _, _, .nil, e => by cases e; rfl
  | _, _, _, .cons (d := d) r q, e => by
    cases d with
    | int i =>
      unfold intsOf at e
      cases h : intsOf _ with
      | none => rw [h] at e; cases e
      | some ms =>
        rw [h] at e
        cases e
        cases r
        rw [ints_rep q h]
        rfl
    | _ => cases e
theorem bls_rep : ∀ {ds : List D} {vs : List V} {ns : List Bool}, Reps L.β F H vs ds → blsOf ds = some ns → vs = ns.map V.bl
  | _, _, _, .nil, e => by cases e; rfl
  | _, _, _, .cons (d := d) r q, e => by
    cases d with
    | bool i =>
      unfold blsOf at e
      cases h : blsOf _ with
      | none => rw [h] at e; cases e
      | some ms =>
        rw [h] at e
        cases e
        cases r
        rw [bls_rep q h]
        rfl
    | _ => cases e
def sumD : D → Option (Bool × D)
  | .list ds => (intsOf ds).map fun ns => (false, .int ns.sum)
  | _ => none
def anyD : D → Option (Bool × D)
  | .list ds => (blsOf ds).map fun ns => (false, .bool (ns.any id))
  | _ => none
def allD : D → Option (Bool × D)
  | .list ds => (blsOf ds).map fun ns => (false, .bool (ns.all id))
  | _ => none
theorem mapSome {α β : Type} {o : Option α} {f : α → β} {r : β} (e : o.map f = some r) : ∃ a, o = some a ∧ r = f a := by
  cases o with
  | none => cases e
  | some a => cases e; exact ⟨a, rfl, rfl⟩
theorem sumD_ok : OneS L (rSum X.K) sumD := by
  intro F H σ en b x dx rr Q eo rx e q
  cases dx with
  | list ds =>
    obtain ⟨ns, hn, rfl⟩ := mapSome e
    obtain ⟨p, xs, rfl, r, h | h⟩ := rx.seq (K := X.K) (.inl rfl)
    · have ev := ints_rep (L := L) r hn
      subst ev
      exact ⟨p, ns, rfl, .of h.2, q _ F H (fun _ _ => rfl) eo .refl (.int _) .no⟩
    · cases h.1
  | _ => cases e
theorem anyD_ok : OneS L (rAny X.K) anyD := by
  intro F H σ en b x dx rr Q eo rx e q
  cases dx with
  | list ds =>
    obtain ⟨ns, hn, rfl⟩ := mapSome e
    obtain ⟨p, xs, rfl, r, h | h⟩ := rx.seq (K := X.K) (.inl rfl)
    · have ev := bls_rep (L := L) r hn
      subst ev
      exact ⟨p, ns, rfl, .of h.2, q _ F H (fun _ _ => rfl) eo .refl (.bl _) .no⟩
    · cases h.1
  | _ => cases e
theorem allD_ok : OneS L (rAll X.K) allD := by
  intro F H σ en b x dx rr Q eo rx e q
  cases dx with
  | list ds =>
    obtain ⟨ns, hn, rfl⟩ := mapSome e
    obtain ⟨p, xs, rfl, r, h | h⟩ := rx.seq (K := X.K) (.inl rfl)
    · have ev := bls_rep (L := L) r hn
      subst ev
      exact ⟨p, ns, rfl, .of h.2, q _ F H (fun _ _ => rfl) eo .refl (.bl _) .no⟩
    · cases h.1
  | _ => cases e
theorem re_sum (hc : X.calm = true) (ha : RP X L W a f) (hg : Gl X "sum") (hm : X.mg "sum" = none) (hst : starEach [a] X.env = (false, eval a X.env) :: starEach [] X.env := by rfl) (hpl : (backTo pos (starEach [] X.env)).any (·.1) = false := by rfl) :
    RE X L W (.Call (.Name "sum" p) [a] [] pos) (fz (unM sumD f)) := rx_fz (rx_b1 (cr_sum hc) sumD_ok (by decide +kernel) ha hg hm (by decide) (by decide) hst hpl)
theorem re_any (hc : X.calm = true) (ha : RP X L W a f) (hg : Gl X "any") (hm : X.mg "any" = none) (hst : starEach [a] X.env = (false, eval a X.env) :: starEach [] X.env := by rfl) (hpl : (backTo pos (starEach [] X.env)).any (·.1) = false := by rfl) :
    RE X L W (.Call (.Name "any" p) [a] [] pos) (fz (unM anyD f)) := rx_fz (rx_b1 (cr_any hc) anyD_ok (by decide +kernel) ha hg hm (by decide) (by decide) hst hpl)
theorem re_all (hc : X.calm = true) (ha : RP X L W a f) (hg : Gl X "all") (hm : X.mg "all" = none) (hst : starEach [a] X.env = (false, eval a X.env) :: starEach [] X.env := by rfl) (hpl : (backTo pos (starEach [] X.env)).any (·.1) = false := by rfl) :
    RE X L W (.Call (.Name "all" p) [a] [] pos) (fz (unM allD f)) := rx_fz (rx_b1 (cr_all hc) allD_ok (by decide +kernel) ha hg hm (by decide) (by decide) hst hpl)
def absD : D → Option (Bool × D)
  | .int i => some (false, .int (if i < 0 then -i else i))
  | _ => none
def intD : D → Option (Bool × D)
  | .int i => some (false, .int i)
  | .bool k => some (false, .int (if k then 1 else 0))
  | _ => none
theorem absD_ok : OneS L (fun xs H Q => ∃ i, xs = [.int i] ∧ Q (.int (if i < 0 then -i else i)) H) absD := by
  intro F H σ en b x dx rr Q eo rx e q
  cases dx with
  | int i =>
    cases e
    rcases rx with rx | ⟨_, _, _, _, _, t⟩
    · cases rx
      exact ⟨i, rfl, q _ F H (fun _ _ => rfl) eo .refl (.int _) .no⟩
    · exact t.elim
  | _ => cases e
theorem intD_ok : OneS L (fun xs H Q => (∃ i, xs = [.int i] ∧ Q (.int i) H) ∨ ∃ k, xs = [.bl k] ∧ Q (.int (if k then 1 else 0)) H) intD := by
  intro F H σ en b x dx rr Q eo rx e q
  cases dx with
  | int i =>
    cases e
    rcases rx with rx | ⟨_, _, _, _, _, t⟩
    · cases rx
      exact .inl ⟨i, rfl, q _ F H (fun _ _ => rfl) eo .refl (.int _) .no⟩
    · exact t.elim
  | bool k =>
    cases e
    rcases rx with rx | ⟨_, _, _, _, _, t⟩
    · cases rx
      exact .inr ⟨k, rfl, q _ F H (fun _ _ => rfl) eo .refl (.int _) .no⟩
    · exact t.elim
  | _ => cases e
theorem re_abs (ha : RP X L W a f) (hg : Gl X "abs") (hm : X.mg "abs" = none) (hst : starEach [a] X.env = (false, eval a X.env) :: starEach [] X.env := by rfl) (hpl : (backTo pos (starEach [] X.env)).any (·.1) = false := by rfl) :
    RE X L W (.Call (.Name "abs" p) [a] [] pos) (fz (unM absD f)) := rx_fz (rx_b1 call_abs absD_ok (by decide +kernel) ha hg hm (by decide) (by decide) hst hpl)
theorem re_intc (ha : RP X L W a f) (hg : Gl X "int") (hm : X.mg "int" = none) (hst : starEach [a] X.env = (false, eval a X.env) :: starEach [] X.env := by rfl) (hpl : (backTo pos (starEach [] X.env)).any (·.1) = false := by rfl) :
    RE X L W (.Call (.Name "int" p) [a] [] pos) (fz (unM intD f)) := rx_fz (rx_t1 call_int1 intD_ok boot_int ha hg hm (by decide) (by decide) hst hpl)
/-- min, max of two -/
def mm2 (g : Int → Int → Int) : List D → Option (Bool × D)
  | [.int i, .int j] => some (false, .int (g i j))
  | _ => none
theorem mm2_ok {g : Int → Int → Int} : ArgS L (fun xs H Q => ∃ i j, xs = [.int i, .int j] ∧ Q (.int (g i j)) H) (mm2 g) := by
  intro F H σ en b xs ds rr Q eo rs e q
  match ds, e with
  | [.int i, .int j], e =>
    cases e
    cases rs with
    | cons r1 t =>
      cases t with
      | cons r2 t2 =>
        cases t2
        cases r1
        cases r2
        exact ⟨i, j, rfl, q _ F H (fun _ _ => rfl) eo .refl (.int _) .no⟩
def min2 : Int → Int → Int := fun i j => if j < i then j else i
def max2 : Int → Int → Int := fun i j => if j > i then j else i
theorem re_min2 {g : M (List D)} (hc : X.calm = true) (ha : RA X L W [a, c] g) (hg : Gl X "min") (hm : X.mg "min" = none) (hst : starEach [a, c] X.env = (false, eval a X.env) :: starEach [c] X.env := by rfl) (hpl : (backTo pos (starEach [c] X.env)).any (·.1) = false := by rfl) :
    RE X L W (.Call (.Name "min" p) [a, c] [] pos) (fz (argM (mm2 min2) g)) := rx_fz (rx_arg (pe_callB (call_min2 hc) hg hm (by decide +kernel) ha (by decide) (by decide) hst hpl) mm2_ok)
theorem re_max2 {g : M (List D)} (hc : X.calm = true) (ha : RA X L W [a, c] g) (hg : Gl X "max") (hm : X.mg "max" = none) (hst : starEach [a, c] X.env = (false, eval a X.env) :: starEach [c] X.env := by rfl) (hpl : (backTo pos (starEach [c] X.env)).any (·.1) = false := by rfl) :
    RE X L W (.Call (.Name "max" p) [a, c] [] pos) (fz (argM (mm2 max2) g)) := rx_fz (rx_arg (pe_callB (call_max2 hc) hg hm (by decide +kernel) ha (by decide) (by decide) hst hpl) mm2_ok)
/-- bit_length -/
def bitsD : D → Option (Bool × D)
  | .int i => some (false, .int (Builtin.Int.intBits i : Nat))
  | _ => none
theorem re_bits {apos : Pos} (ha : RP X L W a f) (hbase : attributeBase a "bit_length" X.env (eval a X.env) = eval a X.env := by rfl) (hline : (apos.endLine == pos.line) = true := by rfl) : RE X L W (.Call (.Attribute a "bit_length" apos) [] [] pos) (fz (unM bitsD f)) :=
  rx_fz (rx_un (r := fun x H Q => ∃ i, x = .int i ∧ Q (.int (Builtin.Int.intBits i : Nat)) H) (pe_bits ha hbase hline) fun F H σ en b x dx rr Q eo rx e q => by
    cases dx with
    | int i =>
      cases e
      rcases rx with rx | ⟨_, _, _, _, _, t⟩
      · cases rx
        exact ⟨i, rfl, q _ F H (fun _ _ => rfl) eo .refl (.int _) .no⟩
      · exact t.elim
    | _ => cases e)
/-- list(range(..)), tuple(range(..)) -/
def rgD (a b : Int) : List D := (List.range (b - a).toNat).map fun i => .int (a + (i : Nat))
theorem rg_rep (i j : Int) : Reps L.β F H (rgV i j) (rgD i j) := by
  unfold rgV rgD
  generalize List.range _ = l
  induction l with
  | nil => exact .nil
  | cons x l ih => exact .cons (.int _) ih
def rgOk (a b : Int) : Bool := decide (-(2 ^ 62) ≤ a) && decide (a < 2 ^ 62) && decide (-(2 ^ 62) ≤ b) && decide (b < 2 ^ 62) && decide ((b - a).toNat ≤ 2 ^ 24)
theorem rgOk_ok {a b : Int} (h : rgOk a b = true) : RgOk a b := by
  unfold rgOk at h
  simp only [Bool.and_eq_true, decide_eq_true_eq] at h
  exact ⟨h.1.1.1.1, h.1.1.1.2, h.1.1.2, h.1.2, h.2⟩
def lrgM (f : M D) : M (Bool × D) := f.bind fun x => match x with
  | .int n => if rgOk 0 n then M.ret (true, .list (rgD 0 n)) else stk
  | _ => stk
theorem rx_lrg {q p2 : Pos} (hc : X.calm = true) (ha : RE X L W a f) (hg : Gl X "list") (hm : X.mg "list" = none) (hg2 : Gl X "range") (hm2 : X.mg "range" = none)
    (na : starEach [a] X.env = (false, eval a X.env) :: starEach [] X.env := by rfl) (na2 : starEach [.Call (.Name "range" p2) [a] [] q] X.env = (false, eval (.Call (.Name "range" p2) [a] [] q) X.env) :: starEach [] X.env := by rfl) :
    RX X L W (.Call (.Name "list" p) [.Call (.Name "range" p2) [a] [] q] [] pos) (lrgM f) := peImp (pe_listRg hc hg hm (prg_1 hg2 hm2 ha na) na2) fun σ H Q ⟨F, en, b, eo, q⟩ => ⟨F, en, b, eo, by
  unfold lrgM M.bind at q
  cases hf : f en b with
  | stuck => rw [hf] at q; exact q
  | exc x en' b' => rw [hf] at q; exact q
  | ok dx en' b' =>
    rw [hf] at q
    intro x F' H' l eo' rx
    cases dx with
    | int n =>
      dsimp only at q
      cases rx
      by_cases hz : rgOk 0 n = true
      · rw [if_pos hz] at q
        exact ⟨n, rfl, rgOk_ok hz, fun p hp => newLst eo' hp (rg_rep (L := L) 0 n) fun g e1 s rk nn => q _ _ _ (l.trans s) e1 rk (nn.back l)⟩
      · rw [if_neg hz] at q
        exact q.elim
    | _ => exact q.elim⟩
end
end PL
namespace PL
open PySem PySem.Spec PyProof.Rows L2

section
variable {X : Cx} {L : Lo} {W : WX} {F F' : Addr → Prop} {H H' : Hp} {σ : St} {en : SE} {b : Bg}
variable {a c e : Expr} {pos : Pos} {st : Stmt}
theorem PoS.mono {Dn : Ends} {o : Out Fl} (l : Le F H F' H') (h : PoS L W Dn F H o) : PoS L W Dn F' H' o := by
  cases o with
  | stuck => exact h
  | ok fl en' b' => exact fun σ' F2 H2 l2 o2 => h σ' F2 H2 (l.trans l2) o2
  | exc x en' b' => exact fun σ' F2 H2 cls dd l2 o2 => h σ' F2 H2 cls dd (l.trans l2) o2
/-! ### names are bound -/
def setR (i : Nat) (r : Bool × D) : M Unit := fun en b => if i < en.length then .ok () (en.set i (some r)) b else .stuck
def asgM (i : Nat) (f : M (Bool × D)) : M Fl := f.bind fun r => (setR i r).bind fun _ => M.ret .nx
theorem rs_asgN {i : Nat} {f : M (Bool × D)} {t : TE} (h : PS X st (tAsg t (gName i))) (hi : ∀ σ H Q, tX L W f σ H Q → t σ H Q) : RS X L W st (asgM i f) := psImp h fun Dn σ H ⟨F, en, b, eo, q⟩ => by
  refine hi σ H (fun x H1 => Dn.nx (σ.set i (some x)) H1) ⟨F, en, b, eo, ?_⟩
  unfold asgM M.bind at q
  cases hf : f en b with
  | stuck => rw [hf] at q; exact q
  | exc x en' b' => rw [hf] at q; exact fun F2 H2 cls dd l o2 => q σ F2 H2 cls dd l o2
  | ok r en' b' =>
    rw [hf] at q
    intro v F2 H2 l o2 rv _
    dsimp only [setR] at q
    by_cases hl : i < en'.length
    · rw [if_pos hl] at q
      exact q _ F2 H2 l.le (o2.bind rv hl)
    · rw [if_neg hl] at q
      exact q.elim
theorem rs_asg {i : Nat} {f : M (Bool × D)} (h : PS X st (tAsg (tX L W f) (gName i))) : RS X L W st (asgM i f) := rs_asgN h fun _ _ _ q => q
/-- an expression alone -/
def dropM {α : Type} (f : M α) : M Fl := f.bind fun _ => M.ret .nx
theorem rs_drop {f : M D} (h : PS X st (tDrop (tD L W f))) : RS X L W st (dropM f) := psImp h fun Dn σ H ⟨F, en, b, eo, q⟩ => ⟨F, en, b, eo, by
  unfold dropM M.bind M.ret at q
  cases hf : f en b with
  | stuck => rw [hf] at q; exact q
  | exc x en' b' => rw [hf] at q; exact fun F2 H2 cls dd l o2 => q σ F2 H2 cls dd l o2
  | ok r en' b' => rw [hf] at q; exact fun v F2 H2 l o2 rv => q σ F2 H2 l.le o2⟩
def retM (f : M (Bool × D)) : M Fl := f.bind fun r => M.ret (.rt r)
theorem rs_ret {f : M (Bool × D)} (he : RX X L W e f) : RS X L W (.Return (some e) pos) (retM f) := psImp (ps_ret he) fun Dn σ H ⟨F, en, b, eo, q⟩ => ⟨F, en, b, eo, by
  unfold retM M.bind M.ret at q
  cases hf : f en b with
  | stuck => rw [hf] at q; exact q
  | exc x en' b' => rw [hf] at q; exact fun F2 H2 cls dd l o2 => q σ F2 H2 cls dd l o2
  | ok r en' b' => rw [hf] at q; exact fun v F2 H2 l o2 rv _ => q σ F2 H2 l.le o2 v rv⟩
/-- return x, x a name: its list goes out unfrozen -/
def retN (i : Nat) : M Fl := fun en b => match en[i]? with
  | some (some (k, d)) => .ok (.rt (k, d)) (en.set i none) b
  | _ => .stuck
theorem EO.drop1 (o : EO L F H σ en b) {i : Nat} : EO L F H σ (en.set i none) b := by
  have get : ∀ (j : Nat) x, (en.set i none)[j]? = some (some x) → j ≠ i ∧ en[j]? = some (some x) := fun j x e => by
    by_cases hj : j = i
    · subst hj
      by_cases hi : j < en.length
      · rw [List.getElem?_set_self hi] at e
        cases e
      · rw [List.getElem?_eq_none (by rw [List.length_set]; omega)] at e
        cases e
    · rw [List.getElem?_set_ne (Ne.symm hj)] at e
      exact ⟨hj, e⟩
  exact ⟨o.fh, o.ent, o.f0, o.fn, by rw [List.length_set]; exact o.len, fun j d h => o.sl j d (get j _ h).2, fun j d h => o.ow j d (get j _ h).2, fun j k d d' p hjk h1 h2 => o.di j k d d' p hjk (get j _ h1).2 (get k _ h2).2, o.bg⟩
theorem rs_retN {i : Nat} (he : PE X e (tVar i)) : RS X L W (.Return (some e) pos) (retN i) := psImp (ps_ret he) fun Dn σ H ⟨F, en, b, eo, q⟩ => by
  unfold retN at q
  rcases nm_cases i en b with ⟨d, hd⟩ | ⟨d, hd⟩ | ⟨_, hd⟩
  · rw [hd] at q
    obtain ⟨p, h1, w⟩ := eo.ow i d hd
    refine ⟨_, h1, q σ F H Le.refl eo.drop1 _ ⟨p, rfl, w, fun j d' hj hs => ?_⟩⟩
    by_cases hji : j = i
    · subst hji
      rw [List.getElem?_set_self (List.getElem?_eq_some_iff.mp hd).1] at hj
      cases hj
    · rw [List.getElem?_set_ne (Ne.symm hji)] at hj
      exact eo.di j i d' d p hji hj hd hs h1
  · rw [hd] at q
    obtain ⟨v, h1, w⟩ := eo.sl i d hd
    exact ⟨v, h1, q σ F H Le.refl eo.drop1 _ w⟩
  · unfold pk at hd
    match h : en[i]? with
    | some (some (k, d)) => rw [h] at hd; cases hd
    | some none => rw [h] at q; exact q.elim
    | none => rw [h] at q; exact q.elim
theorem rs_ret0 : RS X L W (.Return none pos) (M.ret (.rt (false, .none))) := psImp ps_retN fun Dn σ H ⟨F, en, b, eo, q⟩ => q σ F H Le.refl eo _ .non
theorem rs_pass : RS X L W (.Pass pos) (M.ret .nx) := psImp ps_pass fun Dn σ H ⟨F, en, b, eo, q⟩ => q σ F H Le.refl eo
theorem rs_break : RS X L W (.Break pos) (M.ret .brk) := psImp ps_break fun Dn σ H ⟨F, en, b, eo, q⟩ => q σ F H Le.refl eo
theorem rs_cont : RS X L W (.Continue pos) (M.ret .ct) := psImp ps_continue fun Dn σ H ⟨F, en, b, eo, q⟩ => q σ F H Le.refl eo
theorem rs_never : RS X L W st stk := psImp ps_never fun Dn σ H ⟨F, en, b, eo, q⟩ => q
theorem rss_never {sts : List Stmt} : RSs X L W sts stk := pssImp pss_never fun Dn σ H ⟨F, en, b, eo, q⟩ => q
/-! ### blocks -/
def seqM (f g : M Fl) : M Fl := f.bind fun x => match x with
  | .nx => g
  | o => M.ret o
theorem rss_nil : RSs X L W [] (M.ret .nx) := pssImp pss_nil fun Dn σ H ⟨F, en, b, eo, q⟩ => q σ F H Le.refl eo
theorem rss_one {f : M Fl} (h : RS X L W st f) : RSs X L W [st] f := pss_one h
theorem rss_cons {rest : List Stmt} {f g : M Fl} (h : RS X L W st f) (hr : RSs X L W rest g) : RSs X L W (st :: rest) (seqM f g) := pssImp (pss_cons h hr) fun Dn σ H ⟨F, en, b, eo, q⟩ => ⟨F, en, b, eo, by
  unfold seqM M.bind M.ret at q
  cases hf : f en b with
  | stuck => rw [hf] at q; exact q
  | exc x en' b' => rw [hf] at q; exact q
  | ok fl en' b' =>
    rw [hf] at q
    intro σ' F2 H2 l o2
    cases fl with
    | nx => exact ⟨F2, en', b', o2, PoS.mono l q⟩
    | brk => exact q σ' F2 H2 l o2
    | ct => exact q σ' F2 H2 l o2
    | rt r => exact q σ' F2 H2 l o2⟩
def ifM (t : M Bool) (f g : M Fl) : M Fl := t.bind fun x => match x with
  | true => f
  | false => g
theorem rs_if {x y : List Stmt} {t : M Bool} {f g : M Fl} (hc : RT X L W c t) (ha : RSs X L W x f) (hb : RSs X L W y g) : RS X L W (.If c x y pos) (ifM t f g) := psImp (ps_if hc ha hb) fun Dn σ H ⟨F, en, b, eo, q⟩ => ⟨F, en, b, eo, by
  unfold ifM M.bind at q
  cases hf : t en b with
  | stuck => rw [hf] at q; exact q
  | exc x en' b' => rw [hf] at q; exact fun F2 H2 cls dd l o2 => q σ F2 H2 cls dd l o2
  | ok k en' b' =>
    rw [hf] at q
    intro F2 H2 l o2
    cases k with
    | true => exact iteT ⟨F2, en', b', o2, PoS.mono l.le q⟩
    | false => exact iteF ⟨F2, en', b', o2, PoS.mono l.le q⟩⟩
/-! ### while -/
def whileM : Nat → M Bool → M Fl → M Fl
  | 0, _, _ => stk
  | n + 1, t, f => t.bind fun x => match x with
    | false => M.ret .nx
    | true => f.bind fun fl => match fl with
      | .nx => whileM n t f
      | .ct => whileM n t f
      | .brk => M.ret .nx
      | .rt r => M.ret (.rt r)
theorem rs_while (n : Nat) {x : List Stmt} {t : M Bool} {f : M Fl} (hp : PassesOwn (model X.prog X.w) X.A X.env X.xe) (hc : RT X L W c t) (hb : RSs X L W x f) : RS X L W (.While c x [] pos) (whileM n t f) := psImp (ps_while hp hc hb) fun Dn σ H h0 => by
  refine ⟨fun m σ H => tS L W (whileM m t f) Dn σ H, ⟨n, h0⟩, ?_⟩
  rintro m σ H ⟨F, en, b, eo, q⟩
  refine ⟨F, en, b, eo, ?_⟩
  cases m with
  | zero => exact q.elim
  | succ m =>
    unfold whileM M.bind at q
    cases hf : t en b with
    | stuck => rw [hf] at q; exact q
    | exc x en' b' => rw [hf] at q; exact fun F2 H2 cls dd l o2 => q σ F2 H2 cls dd l o2
    | ok k en' b' =>
      rw [hf] at q
      intro F2 H2 l o2
      cases k with
      | false => exact iteF (q σ F2 H2 l.le o2)
      | true =>
        refine iteT ⟨fun σ' H' => tS L W (whileM m t f) Dn σ' H', fun σ' H' h => ⟨m, Nat.lt_succ_self m, h⟩, F2, en', b', o2, ?_⟩
        dsimp only at q
        cases hg : f en' b' with
        | stuck => rw [hg] at q; exact q
        | exc x en3 b3 =>
          rw [hg] at q
          exact fun σ' F3 H3 cls dd l3 o3 => q σ' F3 H3 cls dd (l.le.trans l3) o3
        | ok fl en3 b3 =>
          rw [hg] at q
          intro σ' F3 H3 l3 o3
          cases fl with
          | nx => exact ⟨F3, en3, b3, o3, PoS.mono (l.le.trans l3) q⟩
          | ct => exact ⟨F3, en3, b3, o3, PoS.mono (l.le.trans l3) q⟩
          | brk => exact q σ' F3 H3 (l.le.trans l3) o3
          | rt r => exact q σ' F3 H3 (l.le.trans l3) o3
/-! ### targets -/
theorem wipe_set {σ : St} {i : Nat} {x : Option V} : ∀ {vs : List Nat}, i ∈ vs → wipe (σ.set i x) vs = wipe σ vs
  | v :: vs, h => by
    show (wipe (σ.set i x) vs).set v none = (wipe σ vs).set v none
    by_cases hv : i ∈ vs
    · rw [wipe_set hv]
    · have e : i = v := by
        rcases List.mem_cons.mp h with h | h
        · exact h
        · exact absurd h hv
      subst e
      have comm : ∀ {vs : List Nat}, i ∉ vs → wipe (σ.set i x) vs = (wipe σ vs).set i x := by
        intro vs
        induction vs with
        | nil => intro _; rfl
        | cons w ws ih =>
          intro hn
          simp only [List.mem_cons, not_or] at hn
          show (wipe (σ.set i x) ws).set w none = ((wipe σ ws).set w none).set i x
          rw [ih hn.2, List.set_comm _ _ hn.1]
      rw [comm hv, List.set_set]
theorem ow_set {σ : St} {en : SE} {i : Nat} {v : V} {d : D} {p : Addr} (h : Ow (σ.set i (some v)) (en.set i (some (false, d))) p) : Ow σ en p := by
  obtain ⟨j, d', h1, h2⟩ := h
  by_cases hj : j = i
  · subst hj
    by_cases hl : j < en.length
    · rw [List.getElem?_set_self hl] at h1
      cases h1
    · rw [List.getElem?_eq_none (by rw [List.length_set]; omega)] at h1
      cases h1
  · rw [List.getElem?_set_ne (Ne.symm hj)] at h1 h2
    exact ⟨j, d', h1, h2⟩
theorem rg_name {i : Nat} {vs : List Nat} {tg : Expr} (h : PG X tg (gName i)) (hi : i ∈ vs := by decide) : RG X L vs tg (fun d => setR i (false, d)) := ⟨fun pins s σ H v u Q I r ⟨F, en, b, d, eo, rd, q⟩ => h.run pins s σ H v u Q I r (by
  dsimp only [setR] at q
  by_cases hl : i < en.length
  · rw [if_pos hl] at q
    exact q _ (eo.bind (r := (false, d)) rd hl) (wipe_set hi) fun _ => ow_set
  · rw [if_neg hl] at q
    exact q.elim)⟩
def consG (g : D → M Unit) (k : List D → M Unit) : List D → M Unit
  | d :: ds => (g d).bind fun _ => k ds
  | [] => stk
def nilG : List D → M Unit
  | [] => M.ret ()
  | _ => stk
theorem rgs_nil {vs : List Nat} : RGs X L vs [] nilG := ⟨fun pins s σ H us ws Q I r ⟨F, en, b, ds, eo, rd, q⟩ => pgs_nil.run pins s σ H us ws Q I r (by
  cases rd with
  | nil => exact ⟨rfl, q σ eo rfl fun _ h => h⟩
  | cons _ _ => exact q.elim)⟩
theorem rgs_cons {vs : List Nat} {x : Expr} {es : List Expr} {g : D → M Unit} {k : List D → M Unit} (h1 : RG X L vs x g) (h2 : RGs X L vs es k) (hs : (assignEach (x :: es) X.env).map (·.2) = assign x X.env :: (assignEach es X.env).map (·.2) := by rfl) : RGs X L vs (x :: es) (consG g k) :=
  ⟨fun pins s σ H us ws Q I r ⟨F, en, b, ds, eo, rd, q⟩ => (pgs_cons h1 h2 hs).run pins s σ H us ws Q I r (by
    cases rd with
    | nil => exact q.elim
    | @cons v1 vr d1 dr r1 rr =>
      refine ⟨v1, vr, rfl, F, en, b, d1, eo, r1, ?_⟩
      unfold consG M.bind at q
      dsimp only at q
      cases hg : g d1 en b with
      | stuck => rw [hg] at q; exact q
      | exc x en' b' => rw [hg] at q; exact q
      | ok z en' b' =>
        rw [hg] at q
        intro σ' o2 w2 k2
        refine ⟨F, en', b', dr, o2, rr, ?_⟩
        dsimp only at q
        cases hk : k dr en' b' with
        | stuck => rw [hk] at q; exact q
        | exc x en3 b3 => rw [hk] at q; exact q
        | ok z3 en3 b3 =>
          rw [hk] at q
          exact fun σ3 o3 w3 k3 => q σ3 o3 (w3.trans w2) fun a h => k2 a (k3 a h))⟩
/-- a, b, .. = a tuple or a list of that length -/
def tupG (n : Nat) (k : List D → M Unit) : D → M Unit
  | .tuple ds => if ds.length = n then k ds else stk
  | .list ds => if ds.length = n then k ds else stk
  | _ => stk
theorem pgOr {tg : Expr} {t t' : TG} (h : PG X tg t) (h' : PG X tg t') : PG X tg (fun v σ H Q => t v σ H Q ∨ t' v σ H Q) := ⟨fun pins s σ H v u Q I r q => q.elim (h.run pins s σ H v u Q I r) (h'.run pins s σ H v u Q I r)⟩
theorem rg_tup {vs : List Nat} {es : List Expr} {k : List D → M Unit} {kk : Nat} {n : Nat} (hc : X.calm = true) (h : RGs X L vs es k)
    (hn : (assignEach es X.env).length = n := by rfl) (hst : (assignEach es X.env).findIdx? (·.1) = none := by rfl) : RG X L vs (.Tuple es kk pos) (tupG n k) :=
  ⟨fun pins s σ H v u Q I r ⟨F, en, b, d, eo, rd, q⟩ => (pgOr (pg_tup hc h hn hst) (pg_lst hc h hn hst)).run pins s σ H v u Q I r (by
    cases d with
    | tuple ds =>
      have q' : match (if ds.length = n then k ds else stk) en b with
        | .ok _ en' b' => ∀ σ', EO L F H σ' en' b' → wipe σ' vs = wipe σ vs → (∀ a, Ow σ' en' a → Ow σ en a) → Q σ' H
        | _ => False := q
      by_cases hl : ds.length = n
      · rw [if_pos hl] at q'
        cases rd with
        | tup f h r => exact .inl ⟨_, _, rfl, .of h, by rw [r.len]; exact hl, F, en, b, ds, eo, r, q'⟩
      · rw [if_neg hl] at q'
        exact q'.elim
    | list ds =>
      have q' : match (if ds.length = n then k ds else stk) en b with
        | .ok _ en' b' => ∀ σ', EO L F H σ' en' b' → wipe σ' vs = wipe σ vs → (∀ a, Ow σ' en' a → Ow σ en a) → Q σ' H
        | _ => False := q
      by_cases hl : ds.length = n
      · rw [if_pos hl] at q'
        cases rd with
        | lst f h r => exact .inr ⟨_, _, rfl, .of h, by rw [r.len]; exact hl, F, en, b, ds, eo, r, q'⟩
      · rw [if_neg hl] at q'
        exact q'.elim
    | _ => exact q.elim)⟩
/-- target = e, for a target that is no name -/
def runG (g : M Unit) : M Fl := fun en b => match g en b with
  | .ok _ e' b' => .ok .nx e' b'
  | _ => .stuck
def asgG (f : M D) (g : D → M Unit) : M Fl := f.bind fun d => runG (g d)
theorem rs_asgG {vs : List Nat} {tg : Expr} {f : M D} {g : D → M Unit} (he : RE X L W e f) (hg : RG X L vs tg g) (hs : swapsWithSole [tg] e pos.line X.env = pure false := by rfl) (hw : swappedStores [tg] e X.env = pure none := by rfl)
    (h1 : (assignEach [tg] X.env).map (·.2) = [assign tg X.env] := by rfl) : RS X L W (.Assign [tg] e pos) (asgG f g) := psImp (ps_asg he hg hs hw h1) fun Dn σ H ⟨F, en, b, eo, q⟩ => ⟨F, en, b, eo, by
  unfold asgG M.bind runG at q
  cases hf : f en b with
  | stuck => rw [hf] at q; exact q
  | exc x en' b' => rw [hf] at q; exact fun F2 H2 cls dd l o2 => q σ F2 H2 cls dd l o2
  | ok d en' b' =>
    rw [hf] at q
    intro v F2 H2 l o2 rv
    refine ⟨F2, en', b', d, o2, rv, ?_⟩
    dsimp only at q
    cases hg : g d en' b' with
    | stuck => rw [hg] at q; exact q
    | exc x en3 b3 => rw [hg] at q; exact q
    | ok z en3 b3 =>
      rw [hg] at q
      exact fun σ3 o3 _ _ => q σ3 F2 H2 l.le o3⟩

/-! ### what is walked -/
/-- the walk J yields the data ds, from (F, H) on -/
structure WalkOk (L : Lo) (J : It) (F : Addr → Prop) (H : Hp) (ds : List D) : Prop where
  go : ∀ (i : Nat) d F2 H2, ds[i]? = some d → Le F H F2 H2 → (∀ a, F2 a → H2 a ≠ none) → J.go i H2 ∧ ∀ x H', J.yld i H2 x H' → ∃ F', Le F2 H2 F' H' ∧ Gr H2 H' ∧ (∀ a, F' a → F2 a ∨ H2 a = none) ∧ (∀ a, F' a → H' a ≠ none) ∧ Rep L.β F' H' x d
  stop : ∀ F2 H2, Le F H F2 H2 → J.stop ds.length H2
def tW (L : Lo) (W : WX) (f : M (List D)) : TI := fun σ H R => ∃ F en b, EO L F H σ en b ∧ match f en b with
  | .stuck => False
  | .ok ds en' b' => ∀ J F' H', Stp L σ F H en F' H' en' → EO L F' H' σ en' b' → WalkOk L J F' H' ds → R J H'
  | .exc x en' b' => ∀ F' H' cls dd, Le F H F' H' → EO L F' H' σ en' b' → L.exr x cls dd H' → W cls dd σ H'
abbrev RI (X : Cx) (L : Lo) (W : WX) (tg iter : Expr) (f : M (List D)) : Prop := PI X tg iter (tW L W f)
theorem piImp {tg iter : Expr} {t t' : TI} (h : PI X tg iter t) (i : ∀ σ H R, t' σ H R → t σ H R) : PI X tg iter t' := ⟨fun pins s σ H R I q => h.run pins s σ H R I (i _ _ _ q)⟩
/-- frozen addresses may be added: those that are new -/
theorem EO.more (o : EO L F H σ en b) {F' : Addr → Prop} (g : Gr H H') (l : Le F H F' H') (n : ∀ a, F' a → F a ∨ H a = none) (t : ∀ a, F' a → H' a ≠ none) : EO L F' H' σ en b := by
  have e1 := o.grow g
  have le : Le F H' F' H' := fun a f => ⟨(l a f).1, rfl⟩
  refine ⟨fun a f => ⟨t a f, ?_⟩, e1.ent, fun a f => (l a (o.f0 a f)).1, fun a f => ?_, e1.len, fun i d h => ?_, fun i d h => ?_, e1.di, e1.bg⟩
  · rcases n a f with z | z
    · exact (o.fh a z).2
    · exact (o.new0 z).2.2
  · rcases n a f with z | z
    · exact o.fn a z
    · exact .inr (o.new0 z).1
  · obtain ⟨v, k1, k2⟩ := e1.sl i d h
    exact ⟨v, k1, k2.mono le⟩
  · obtain ⟨p, k1, k2⟩ := e1.ow i d h
    obtain ⟨p', k1', k2'⟩ := o.ow i d h
    rw [k1] at k1'
    cases k1'
    refine ⟨p, k1, fun f => ?_, k2.nb, k2.nc, k2.new, k2.top.mono le rfl⟩
    rcases n p f with z | z
    · exact k2'.nf z
    · exact k2'.there z
theorem Stp.more (g : Gr H H') (l : Le F H F' H') (n : ∀ a, F' a → F a ∨ H a = none) : Stp L σ F H en F' H' en :=
  ⟨l, fun a h _ _ _ => g a h, fun a f => (n a f).elim .inl fun z => .inr (.inr z), fun _ o => o, fun a h => by rw [g a h]; exact h⟩
/-- a list or a tuple, frozen -/
def seqD : D → Option (List D)
  | .list ds => some ds
  | .tuple ds => some ds
  | _ => none
def seqW (f : M D) : M (List D) := f.bind fun x => opt (seqD x)
theorem walk_seqL {K : PySem.W.Frag} {p : Addr} {xs : List V} {ds : List D} (f : F p) (h : H p = some (.lst xs)) (r : Reps L.β F H xs ds) : WalkOk L (Itl K p) F H ds where
  go := fun i d F2 H2 e l t => by
    have h2 : H2 p = some (.lst xs) := (l p f).2.trans h
    obtain ⟨y, hy, ry⟩ := (r.mono l).get e
    refine ⟨⟨xs, y, .of h2, hy⟩, fun x H' ⟨e', k⟩ => ?_⟩
    subst e'
    have := k xs (.of h2)
    rw [hy] at this
    cases this
    exact ⟨F2, Le.refl, fun _ _ => rfl, fun _ f => .inl f, t, ry⟩
  stop := fun F2 H2 l => ⟨xs, .of ((l p f).2.trans h), by rw [r.len]; exact Nat.le_refl _⟩
theorem walk_seqT {K : PySem.W.Frag} {p : Addr} {xs : List V} {ds : List D} (f : F p) (h : H p = some (.tup xs)) (r : Reps L.β F H xs ds) : WalkOk L (Itt K p) F H ds where
  go := fun i d F2 H2 e l t => by
    have h2 : H2 p = some (.tup xs) := (l p f).2.trans h
    obtain ⟨y, hy, ry⟩ := (r.mono l).get e
    refine ⟨⟨xs, y, .of h2, hy⟩, fun x H' ⟨e', k⟩ => ?_⟩
    subst e'
    have := k xs (.of h2)
    rw [hy] at this
    cases this
    exact ⟨F2, Le.refl, fun _ _ => rfl, fun _ f => .inl f, t, ry⟩
  stop := fun F2 H2 l => ⟨xs, .of ((l p f).2.trans h), by rw [r.len]; exact Nat.le_refl _⟩
/-- a list or a tuple is walked -/
theorem piOr {tg l : Expr} {tl : TE} (hl : PE X l tl) : PI X tg l (fun σ H R => tl σ H fun x H1 => ∃ p, x = .ref p ∧ ((∃ xs, H1 p = some (.lst xs) ∧ R (Itl X.K p) H1) ∨ ∃ xs, H1 p = some (.tup xs) ∧ R (Itt X.K p) H1)) := by
  refine ⟨fun pins s σ H R I h => ?_⟩
  refine thn (hl.run pins s σ H _ I h) fun v s1 ⟨x, H1, I1, r1, p, e, q⟩ => ?_
  subst e
  cases r1
  rcases q with ⟨xs, hq, q⟩ | ⟨xs, hq, q⟩
  · obtain ⟨its, rv, pl, hz⟩ := I1.list (SqL.of hq)
    refine wpAny_pyIter_list pl.isList ?_
    refine ⟨s1.heap.objs.size, [s1.heap.objs.size], _, _, H1, rfl, I1.kept (t' := s1.toks) fun b o e => Heap.get?_push_of_some _ e, turn_list p _, ⟨_, Heap.get?_push_size _ rfl, rfl, rfl⟩, fun b hb => ?_, q⟩
    obtain rfl : b = s1.heap.objs.size := by simpa using hb
    exact I1.fpOk (Nat.le_refl _) (I1.hok.fresh (Nat.le_refl _))
  · obtain ⟨its, rv, pl, hz⟩ := I1.tuple (SqT.of hq)
    refine wpAny_pyIter_tuple (show s1.heap.IsTuple p its.toArray from pl) ?_
    refine ⟨s1.heap.objs.size, [s1.heap.objs.size], _, _, H1, rfl, I1.kept (t' := s1.toks) fun b o e => Heap.get?_push_of_some _ e, turn_tuple p _, ⟨_, Heap.get?_push_size _ rfl, rfl, rfl⟩, fun b hb => ?_, q⟩
    obtain rfl : b = s1.heap.objs.size := by simpa using hb
    exact I1.fpOk (Nat.le_refl _) (I1.hok.fresh (Nat.le_refl _))
theorem ri_seq {tg iter : Expr} {f : M D} (h : RE X L W iter f) : RI X L W tg iter (seqW f) := piImp (piOr h) fun σ H R ⟨F, en, b, eo, q⟩ => ⟨F, en, b, eo, by
  unfold seqW M.bind at q
  cases hf : f en b with
  | stuck => rw [hf] at q; exact q
  | exc x en' b' => rw [hf] at q; exact q
  | ok d en' b' =>
    rw [hf] at q
    intro v F2 H2 l o2 rv
    cases d with
    | list ds =>
      cases rv with
      | lst f h r => exact ⟨_, rfl, .inl ⟨_, h, q _ F2 H2 l o2 (walk_seqL f h r)⟩⟩
    | tuple ds =>
      cases rv with
      | tup f h r => exact ⟨_, rfl, .inr ⟨_, h, q _ F2 H2 l o2 (walk_seqT f h r)⟩⟩
    | _ => exact q.elim⟩
/-- a range -/
def small62 (i : Int) : Bool := decide (-(2 ^ 62) ≤ i) && decide (i < 2 ^ 62)
def rgL (lo : Int) (n : Nat) : List D := (List.range n).map fun i => .int (lo + (i : Nat))
theorem walk_rg {lo : Int} {n : Nat} : WalkOk L (Itr lo n) F H (rgL lo n) where
  go := fun i d F2 H2 e l t => by
    unfold rgL at e
    rw [List.getElem?_map] at e
    cases h : (List.range n)[i]? with
    | none => rw [h] at e; cases e
    | some j =>
      rw [h] at e
      have hi : i < n := by
        have := (List.getElem?_eq_some_iff.mp h).1
        simpa using this
      have hj : j = i := by
        rw [List.getElem?_range hi] at h
        exact (Option.some.inj h).symm
      subst hj
      cases e
      refine ⟨hi, fun x H' ⟨e', k⟩ => ?_⟩
      subst e'
      subst k
      exact ⟨F2, Le.refl, fun _ _ => rfl, fun _ f => .inl f, t, .int _⟩
  stop := fun F2 H2 l => by
    show n ≤ _
    unfold rgL
    rw [List.length_map, List.length_range]
    exact Nat.le_refl _
def rg1W (f : M (List D)) : M (List D) := f.bind fun x => match x with
  | [.int j] => if small62 j then M.ret (rgL 0 j.toNat) else stk
  | _ => stk
def rg2W (f : M (List D)) : M (List D) := f.bind fun x => match x with
  | [.int i, .int j] => if small62 i && small62 j then M.ret (rgL i (j - i).toNat) else stk
  | _ => stk
theorem ri_rg1 {tg : Expr} {p : Pos} {f : M (List D)} (ha : RA X L W [a] f) (hg : Gl X "range") (hm : X.mg "range" = none) (hs : starEach [a] X.env = [(false, eval a X.env)] := by rfl) : RI X L W tg (.Call (.Name "range" p) [a] [] pos) (rg1W f) :=
  piImp (pi_range1 hg hm ha hs) fun σ H R ⟨F, en, b, eo, q⟩ => ⟨F, en, b, eo, by
    unfold rg1W M.bind at q
    cases hf : f en b with
    | stuck => rw [hf] at q; exact q
    | exc x en' b' => rw [hf] at q; exact q
    | ok d en' b' =>
      rw [hf] at q
      intro v F2 H2 l o2 rv
      match d, q, rv with
      | [.int j], q, rv =>
        dsimp only at q
        by_cases hj : small62 j = true
        · rw [if_pos hj] at q
          cases rv with
          | cons r t =>
            cases t
            cases r
            have hj' := hj
            unfold small62 at hj'
            simp only [Bool.and_eq_true, decide_eq_true_eq] at hj'
            exact ⟨j, rfl, hj'.1, hj'.2, q _ F2 H2 l o2 walk_rg⟩
        · rw [if_neg hj] at q
          exact q.elim⟩
theorem ri_rg2 {tg : Expr} {p : Pos} {f : M (List D)} (ha : RA X L W [a, c] f) (hg : Gl X "range") (hm : X.mg "range" = none) (hs : starEach [a, c] X.env = [(false, eval a X.env), (false, eval c X.env)] := by rfl) (hs2 : starEach [c] X.env = [(false, eval c X.env)] := by rfl) : RI X L W tg (.Call (.Name "range" p) [a, c] [] pos) (rg2W f) :=
  piImp (pi_range2 hg hm ha hs hs2) fun σ H R ⟨F, en, b, eo, q⟩ => ⟨F, en, b, eo, by
    unfold rg2W M.bind at q
    cases hf : f en b with
    | stuck => rw [hf] at q; exact q
    | exc x en' b' => rw [hf] at q; exact q
    | ok d en' b' =>
      rw [hf] at q
      intro v F2 H2 l o2 rv
      match d, q, rv with
      | [.int i, .int j], q, rv =>
        dsimp only at q
        by_cases hj : (small62 i && small62 j) = true
        · rw [if_pos hj] at q
          cases rv with
          | cons r t =>
            cases t with
            | cons r2 t2 =>
              cases t2
              cases r
              cases r2
              have hj' := hj
              unfold small62 at hj'
              simp only [Bool.and_eq_true, decide_eq_true_eq] at hj'
              exact ⟨i, j, rfl, ⟨hj'.1.1, hj'.1.2, hj'.2.1, hj'.2.2⟩, q _ F2 H2 l o2 walk_rg⟩
        · rw [if_neg hj] at q
          exact q.elim⟩
/-! ### for -/
def forM' (g : D → M Unit) (f : M Fl) : List D → M Fl
  | [] => M.ret .nx
  | d :: ds => (runG (g d)).bind fun _ => f.bind fun fl => match fl with
    | .nx => forM' g f ds
    | .ct => forM' g f ds
    | .brk => M.ret .nx
    | .rt r => M.ret (.rt r)
def loopM (it : M (List D)) (g : D → M Unit) (f : M Fl) : M Fl := it.bind fun ds => forM' g f ds
theorem rs_for {vs : List Nat} {tg iter : Expr} {body : List Stmt} {it : M (List D)} {g : D → M Unit} {f : M Fl} (hp : PassesOwn (model X.prog X.w) X.A X.env X.xe) (hc : X.calm = true) (hi : RI X L W tg iter it) (hg : RG X L vs tg g) (hb : RSs X L W body f)
    (hs : ∀ x, foldedSetIterable iter X.env x = pure x := by intro _; rfl) : RS X L W (.For tg iter body [] pos) (loopM it g f) := psImp (ps_for hp hc hi hg hb hs) fun Dn σ H ⟨F, en, b, eo, q⟩ => ⟨F, en, b, eo, by
  unfold loopM M.bind at q
  cases hf : it en b with
  | stuck => rw [hf] at q; exact q
  | exc x en' b' => rw [hf] at q; exact fun F2 H2 cls dd l o2 => q σ F2 H2 cls dd l o2
  | ok ds en' b' =>
    rw [hf] at q
    intro J F1 H1 l1 o1 w
    dsimp only at q
    refine ⟨fun i m σ H => m = ds.length - i ∧ i ≤ ds.length ∧ ∃ F en b, EO L F H σ en b ∧ Le F1 H1 F H ∧ PoS L W Dn F H (forM' g f (ds.drop i) en b), ⟨ds.length, by simp, Nat.zero_le _, F1, en', b', o1, Le.refl, PoS.mono l1.le q⟩, ?_⟩
    rintro i m σ2 H2 ⟨rfl, hi, F2, en2, b2, o2, l2, q2⟩
    by_cases hlt : i < ds.length
    · have hd : ds[i]? = some ds[i] := List.getElem?_eq_getElem hlt
      obtain ⟨go, yl⟩ := w.go i _ F2 H2 hd l2 fun a f => (o2.fh a f).1
      refine .inr ⟨go, fun σ' H' => ∃ F en b, EO L F H' σ' en b ∧ Le F1 H1 F H' ∧ PoS L W Dn F H' (forM' g f (ds.drop (i + 1)) en b), fun σ' H' ⟨F3, en3, b3, o3, l3, q3⟩ => ⟨ds.length - (i + 1), by omega, rfl, hlt, F3, en3, b3, o3, l3, q3⟩, fun x H' hy => ?_⟩
      obtain ⟨F3, l3, g3, n3, t3, rx⟩ := yl x H' hy
      have o3 := o2.more g3 l3 n3 t3
      rw [List.drop_eq_getElem_cons hlt] at q2
      unfold forM' M.bind runG at q2
      dsimp only at q2
      refine ⟨F3, en2, b2, ds[i], o3, rx, ?_⟩
      cases hg' : g ds[i] en2 b2 with
      | stuck => rw [hg'] at q2; exact q2
      | exc x en4 b4 => rw [hg'] at q2; exact q2
      | ok z en4 b4 =>
        rw [hg'] at q2
        intro σ4 o4 _ _
        refine ⟨F3, en4, b4, o4, ?_⟩
        dsimp only at q2
        cases hb' : f en4 b4 with
        | stuck => rw [hb'] at q2; exact q2
        | exc x en5 b5 => rw [hb'] at q2; exact fun σ5 F5 H5 cls dd l5 o5 => q2 σ5 F5 H5 cls dd (l3.trans l5) o5
        | ok fl en5 b5 =>
          rw [hb'] at q2
          intro σ5 F5 H5 l5 o5
          cases fl with
          | nx => exact ⟨F5, en5, b5, o5, (l2.trans l3).trans l5, PoS.mono (l3.trans l5) q2⟩
          | ct => exact ⟨F5, en5, b5, o5, (l2.trans l3).trans l5, PoS.mono (l3.trans l5) q2⟩
          | brk => exact q2 σ5 F5 H5 (l3.trans l5) o5
          | rt r => exact q2 σ5 F5 H5 (l3.trans l5) o5
    · have e : i = ds.length := by omega
      subst e
      rw [List.drop_length] at q2
      exact .inl ⟨w.stop F2 H2 l2, q2 σ2 F2 H2 Le.refl o2⟩⟩
end
end PL
namespace PL
open PySem PySem.Spec PyProof.Rows L2

section
variable {X : Cx} {L : Lo} {W : WX} {F F' : Addr → Prop} {H H' : Hp} {σ : St} {en : SE} {b : Bg}
variable {a c e : Expr} {pos : Pos} {st : Stmt}
/-! ### list comprehensions -/
def wipeE (en : SE) : List Nat → SE
  | [] => en
  | v :: vs => (wipeE en vs).set v none
theorem wipeE_length (en : SE) : ∀ vs : List Nat, (wipeE en vs).length = en.length
  | [] => rfl
  | v :: vs => by
    show ((wipeE en vs).set v none).length = _
    rw [List.length_set, wipeE_length en vs]
theorem wipeE_get (en : SE) {i : Nat} : ∀ {vs : List Nat}, i ∉ vs → (wipeE en vs)[i]? = en[i]?
  | [], _ => rfl
  | v :: vs, h => by
    simp only [List.mem_cons, not_or] at h
    show ((wipeE en vs).set v none)[i]? = _
    rw [List.getElem?_set_ne (Ne.symm h.1), wipeE_get en h.2]
theorem wipeE_in (en : SE) {i : Nat} {x : Bool × D} : ∀ {vs : List Nat}, i ∈ vs → (wipeE en vs)[i]? ≠ some (some x)
  | v :: vs, h => fun e => by
    have e' : ((wipeE en vs).set v none)[i]? = some (some x) := e
    by_cases hv : i = v
    · subst hv
      by_cases hl : i < (wipeE en vs).length
      · rw [List.getElem?_set_self hl] at e'
        cases e'
      · rw [List.getElem?_eq_none (by rw [List.length_set]; omega)] at e'
        cases e'
    · rw [List.getElem?_set_ne (Ne.symm hv)] at e'
      rcases List.mem_cons.mp h with z | z
      · exact hv z
      · exact wipeE_in en z e'
theorem wipe_get (σ : St) {i : Nat} : ∀ {vs : List Nat}, i ∉ vs → (wipe σ vs)[i]? = σ[i]?
  | [], _ => rfl
  | v :: vs, h => by
    simp only [List.mem_cons, not_or] at h
    show ((wipe σ vs).set v none)[i]? = _
    rw [List.getElem?_set_ne (Ne.symm h.1), wipe_get σ h.2]
/-- the block's own names are forgotten -/
theorem EO.wiped (o : EO L F H σ en b) {σ0 : St} (vs : List Nat) (hw : wipe σ vs = wipe σ0 vs) : EO L F H (wipe σ0 vs) (wipeE en vs) b := by
  have off : ∀ {i : Nat} {x : Bool × D}, (wipeE en vs)[i]? = some (some x) → i ∉ vs ∧ en[i]? = some (some x) ∧ (wipe σ0 vs)[i]? = σ[i]? := fun {i x} h => by
    have hi : i ∉ vs := fun z => wipeE_in en z h
    rw [wipeE_get en hi] at h
    exact ⟨hi, h, by rw [← hw, wipe_get σ hi]⟩
  refine ⟨o.fh, o.ent, o.f0, o.fn, by rw [wipeE_length, ← hw, wipe_length]; exact o.len, fun i d h => ?_, fun i d h => ?_, fun i j d d' p hij h1 h2 k1 k2 => ?_, o.bg⟩
  · obtain ⟨_, h1, e⟩ := off h
    rw [e]
    exact o.sl i d h1
  · obtain ⟨_, h1, e⟩ := off h
    rw [e]
    exact o.ow i d h1
  · obtain ⟨_, q1, e1⟩ := off h1
    obtain ⟨_, q2, e2⟩ := off h2
    rw [e1] at k1
    rw [e2] at k2
    exact o.di i j d d' p hij q1 q2 k1 k2
/-- the names behind the comprehension: the def's own, as they were (an owned list at a name that the block hid is forgotten) -/
def mrgE (en0 en : SE) : List Nat → SE
  | [] => en
  | v :: vs => (mrgE en0 en vs).set v (match en0[v]? with
    | some (some (false, d)) => some (false, d)
    | _ => none)
theorem mrgE_length (en0 en : SE) : ∀ vs : List Nat, (mrgE en0 en vs).length = en.length
  | [] => rfl
  | v :: vs => by
    show ((mrgE en0 en vs).set v _).length = _
    rw [List.length_set, mrgE_length en0 en vs]
theorem mrgE_get {en0 en : SE} {i : Nat} {x : Bool × D} : ∀ {vs : List Nat}, (mrgE en0 en vs)[i]? = some (some x) → (i ∈ vs ∧ x.1 = false ∧ en0[i]? = some (some x)) ∨ (i ∉ vs ∧ en[i]? = some (some x))
  | [], h => .inr ⟨by simp, h⟩
  | v :: vs, h => by
    have h' : ((mrgE en0 en vs).set v (match en0[v]? with | some (some (false, d)) => some (false, d) | _ => none))[i]? = some (some x) := h
    by_cases hv : i = v
    · subst hv
      by_cases hl : i < (mrgE en0 en vs).length
      · rw [List.getElem?_set_self hl] at h'
        have h2 := Option.some.inj h'
        split at h2
        · rename_i d hd
          cases h2
          exact .inl ⟨by simp, rfl, hd⟩
        · cases h2
      · rw [List.getElem?_eq_none (by rw [List.length_set]; omega)] at h'
        cases h'
    · rw [List.getElem?_set_ne (Ne.symm hv)] at h'
      rcases mrgE_get h' with ⟨q1, q2, q3⟩ | ⟨q1, q2⟩
      · exact .inl ⟨List.mem_cons_of_mem _ q1, q2, q3⟩
      · exact .inr ⟨by simp only [List.mem_cons, not_or]; exact ⟨hv, q1⟩, q2⟩
theorem EO.merged {en0 : SE} {b0 : Bg} {F0 : Addr → Prop} {H0 : Hp} {vs : List Nat} (o0 : EO L F0 H0 σ en0 b0) (l : Le F0 H0 F H) (o : EO L F H (wipe σ vs) en b) (hw : ∀ (i : Nat) x, i ∈ vs → en[i]? ≠ some (some x)) : EO L F H σ (mrgE en0 en vs) b := by
  have len : en.length = σ.length := by rw [o.len, wipe_length]
  refine ⟨o.fh, o.ent, o.f0, o.fn, by rw [mrgE_length]; exact len, fun i d h => ?_, fun i d h => ?_, fun i j d d' p hij h1 h2 k1 k2 => ?_, o.bg⟩
  · rcases mrgE_get h with ⟨_, _, q⟩ | ⟨hi, q⟩
    · obtain ⟨v, k1, k2⟩ := o0.sl i d q
      exact ⟨v, k1, k2.mono l⟩
    · obtain ⟨v, k1, k2⟩ := o.sl i d q
      rw [wipe_get σ hi] at k1
      exact ⟨v, k1, k2⟩
  · rcases mrgE_get h with ⟨_, z, q⟩ | ⟨hi, q⟩
    · cases z
    · obtain ⟨v, k1, k2⟩ := o.ow i d q
      rw [wipe_get σ hi] at k1
      exact ⟨v, k1, k2⟩
  · rcases mrgE_get h1 with ⟨_, z, _⟩ | ⟨hi, q1⟩
    · cases z
    · rcases mrgE_get h2 with ⟨_, z, _⟩ | ⟨hj, q2⟩
      · cases z
      · rw [← wipe_get σ hi] at k1
        rw [← wipe_get σ hj] at k2
        exact o.di i j d d' p hij q1 q2 k1 k2
def WF : WX := fun _ _ _ _ => False
def lcGo (vs : List Nat) (g : D → M Unit) (t : M Bool) (el : M D) : List D → List D → M (List D)
  | [], acc => M.ret acc
  | d :: ds, acc => fun en b => ((g d).bind fun _ => t.bind fun k => match k with
      | true => el.bind fun y => if acc.length < sizeLine then M.ret (acc ++ [y]) else stk
      | false => M.ret acc).bind (fun acc' en' b' => lcGo vs g t el ds acc' (wipeE en' vs) b') (wipeE en vs) b
def lcM (vs : List Nat) (it : M (List D)) (g : D → M Unit) (t : M Bool) (el : M D) : M (Bool × D) := it.bind fun ds en b => match lcGo vs g t el ds [] (wipeE en vs) b with
  | .ok acc en' b' => .ok (true, .list acc) (mrgE en en' vs) b'
  | _ => .stuck
/-- what is wanted of the tests of a comprehension -/
abbrev RTs (X : Cx) (L : Lo) (W : WX) (ifs : List Expr) (f : M Bool) : Prop := PTs X ifs (tB L W f)
theorem rts_nil : RTs X L W [] (M.ret true) := ⟨fun pins s σ H Q I ⟨F, en, b, eo, q⟩ => pts_nil.run pins s σ H Q I (q F H .refl eo)⟩
theorem rts_one {f : M Bool} (h : RT X L W c f) : RTs X L W [c] f := pts_one h
theorem wipeE_wipeE (en : SE) (vs : List Nat) : ∀ us : List Nat, (∀ u ∈ us, u ∈ vs) → wipeE (wipeE en vs) us = wipeE en vs
  | [], _ => rfl
  | u :: us, h => by
    show (wipeE (wipeE en vs) us).set u none = _
    rw [wipeE_wipeE en vs us fun x hx => h x (List.mem_cons_of_mem _ hx)]
    apply List.ext_getElem?
    intro j
    by_cases hj : j = u
    · subst hj
      by_cases hl : j < (wipeE en vs).length
      · rw [List.getElem?_set_self hl]
        have := fun x => wipeE_in en (x := x) (h j (List.mem_cons_self ..))
        cases q : (wipeE en vs)[j]? with
        | none => rw [List.getElem?_eq_none_iff] at q; omega
        | some o =>
          cases o with
          | none => rfl
          | some x => exact absurd q (this x)
      · rw [List.getElem?_eq_none (by rw [List.length_set]; omega), List.getElem?_eq_none (by omega)]
    · rw [List.getElem?_set_ne (Ne.symm hj)]
theorem lcGo_cons {vs : List Nat} {g : D → M Unit} {t : M Bool} {el : M D} {d : D} {ds acc r : List D} {en en' : SE} {b b' : Bg} (h : lcGo vs g t el (d :: ds) acc en b = .ok r en' b') :
    ∃ u e1 c1, g d (wipeE en vs) b = .ok u e1 c1 ∧ ∃ k e2 c2, t e1 c1 = .ok k e2 c2 ∧ ((k = true ∧ ∃ y e3 c3, el e2 c2 = .ok y e3 c3 ∧ acc.length < sizeLine ∧ lcGo vs g t el ds (acc ++ [y]) (wipeE e3 vs) c3 = .ok r en' b') ∨ (k = false ∧ lcGo vs g t el ds acc (wipeE e2 vs) c2 = .ok r en' b')) := by
  unfold lcGo M.bind at h
  dsimp only at h
  cases h1 : g d (wipeE en vs) b with
  | stuck => rw [h1] at h; cases h
  | exc x e1 c1 => rw [h1] at h; cases h
  | ok u e1 c1 =>
    rw [h1] at h
    dsimp only at h
    refine ⟨u, e1, c1, rfl, ?_⟩
    cases h2 : t e1 c1 with
    | stuck => rw [h2] at h; cases h
    | exc x e2 c2 => rw [h2] at h; cases h
    | ok k e2 c2 =>
      rw [h2] at h
      refine ⟨k, e2, c2, rfl, ?_⟩
      cases k with
      | false => exact .inr ⟨rfl, h⟩
      | true =>
        dsimp only at h
        cases h3 : el e2 c2 with
        | stuck => rw [h3] at h; cases h
        | exc x e3 c3 => rw [h3] at h; cases h
        | ok y e3 c3 =>
          rw [h3] at h
          dsimp only at h
          by_cases hz : acc.length < sizeLine
          · rw [if_pos hz] at h
            exact .inl ⟨rfl, y, e3, c3, rfl, hz, h⟩
          · rw [if_neg hz] at h
            cases h
theorem wipe_wipe (σ : St) (vs : List Nat) : ∀ us : List Nat, (∀ u ∈ us, u ∈ vs) → wipe (wipe σ vs) us = wipe σ vs
  | [], _ => rfl
  | u :: us, h => by
    show (wipe (wipe σ vs) us).set u none = _
    rw [wipe_wipe σ vs us fun x hx => h x (List.mem_cons_of_mem _ hx)]
    apply List.ext_getElem?
    intro j
    by_cases hj : j = u
    · subst hj
      by_cases hl : j < (wipe σ vs).length
      · rw [List.getElem?_set_self hl]
        cases q : (wipe σ vs)[j]? with
        | none => rw [List.getElem?_eq_none_iff] at q; omega
        | some o =>
          cases o with
          | none => rfl
          | some x => exact absurd (h j (List.mem_cons_self ..)) (wipe_some q).2
      · rw [List.getElem?_eq_none (by rw [List.length_set]; omega), List.getElem?_eq_none (by omega)]
    · rw [List.getElem?_set_ne (Ne.symm hj)]
/-- an object that is nobody's is written -/
theorem EO.poke (o : EO L F H σ en b) {p : Addr} {u : HO} (nf : ¬ F p) (nb : p ≠ L.β) (nc : p ≠ L.γ) (n0 : L.H0 p = none) (no : ¬ Ow σ en p) : EO L F (upd H p u) σ en b ∧ Le F H F (upd H p u) := by
  have off : ∀ a, a ≠ p → upd H p u a = H a := fun a h => upd_ne h
  have le : Le F H F (upd H p u) := fun a f => ⟨f, off a fun e => nf (e ▸ f)⟩
  refine ⟨⟨fun a f => ⟨by rw [(le a f).2]; exact (o.fh a f).1, (o.fh a f).2⟩, fun a h n1 n2 => by rw [off a fun e => h (e ▸ n0)]; exact o.ent a h n1 n2, o.f0, o.fn, o.len, fun i d h => ?_, fun i d h => ?_, o.di, o.bg.at (off _ (Ne.symm nb)) (off _ (Ne.symm nc))⟩, le⟩
  · obtain ⟨v, h1, h2⟩ := o.sl i d h
    exact ⟨v, h1, h2.mono le⟩
  · obtain ⟨a, h1, h2⟩ := o.ow i d h
    exact ⟨a, h1, h2.nf, h2.nb, h2.nc, h2.new, h2.top.mono le (off a fun e => no ⟨i, d, h, e ▸ h1⟩)⟩
theorem Stp.poke {F0 : Addr → Prop} {H0 : Hp} {en0 : SE} (s : Stp L σ F0 H0 en0 F H en) {p : Addr} {u : HO} (hp : H0 p = none) (h0 : ∀ a, F0 a → H0 a ≠ none) : Stp L σ F0 H0 en0 F (upd H p u) en where
  le := fun a f => ⟨(s.le a f).1, (upd_ne fun (e : a = p) => h0 a f (by rw [e]; exact hp)).trans (s.le a f).2⟩
  oth := fun a h n1 n2 n3 => (upd_ne fun (e : a = p) => h (by rw [e]; exact hp)).trans (s.oth a h n1 n2 n3)
  new := s.new
  own := s.own
  th := fun a h => by
    by_cases e : a = p
    · subst e; rw [upd_same]; simp
    · rw [upd_ne e]; exact s.th a h
/-- a step in a block, seen from its turn's start -/
theorem Stp.blk {σ2 : St} {vs : List Nat} {e0 e1 e3 : SE} (s : Stp L σ2 F H e1 F' H' e3) (h1 : ∀ a, Ow σ2 e1 a → Ow (wipe σ vs) e0 a) (hw : wipe σ2 vs = wipe σ vs) : Stp L (wipe σ vs) F H e0 F' H' (wipeE e3 vs) where
  le := s.le
  oth := fun a h n1 n2 n3 => s.oth a h n1 n2 fun o => n3 (h1 a o)
  new := fun a f => (s.new a f).imp id (.imp (h1 a) id)
  own := fun a ⟨i, d, q1, q2⟩ => by
    have hi : i ∉ vs := fun z => wipeE_in e3 z q1
    rw [wipeE_get e3 hi] at q1
    rw [← hw, wipe_get σ2 hi] at q2
    exact h1 a (s.own a ⟨i, d, q1, q2⟩)
  th := s.th
/-- the reading of a comprehension, from its mirror -/
theorem lc_reading {vs : List Nat} {tgG : D → M Unit} {it : M (List D)} {t : M Bool} {el : M D} {Q : VK} (h : tX L W (lcM vs it tgG t el) σ H Q) : tLc (tW L W it) (tG L vs tgG) (tB L WF t) (tD L WF el) vs σ H Q := by
  obtain ⟨F, en, b, eo, q⟩ := h
  refine ⟨F, en, b, eo, ?_⟩
  unfold lcM M.bind at q
  cases hf : it en b with
  | stuck => rw [hf] at q; exact q
  | exc x en' b' => rw [hf] at q; exact q
  | ok ds en1 b1 =>
    rw [hf] at q
    intro J F1 H1 l1 o1 w D0 hD
    dsimp only at q
    cases hr : lcGo vs tgG t el ds [] (wipeE en1 vs) b1 with
    | stuck => rw [hr] at q; exact q.elim
    | exc x en' b' => rw [hr] at q; exact q.elim
    | ok rF enF bF =>
    rw [hr] at q
    dsimp only at q
    obtain ⟨n1, n2, n3, n4⟩ := o1.new0 hD
    have g1 := gr_upd (u := .lst []) hD
    have t1 : ∀ a, F1 a → H1 a ≠ none := fun a f => (o1.fh a f).1
    have low : ∀ a, Ow (wipe σ vs) (wipeE en1 vs) a → Ow σ en1 a := fun a ⟨j, d, h1, h2⟩ => by
      have hj : j ∉ vs := fun z => wipeE_in en1 z h1
      rw [wipeE_get en1 hj] at h1
      rw [wipe_get σ hj] at h2
      exact ⟨j, d, h1, h2⟩
    -- the new list is no name's
    have noD : ¬ Ow σ en1 D0 := fun ⟨i, d, h1, h2⟩ => by
      obtain ⟨p, k1, k2⟩ := o1.ow i d h1
      rw [h2] at k1
      cases k1
      exact k2.there hD
    have noF : ∀ {F2 H2 en2}, Stp L (wipe σ vs) F1 H1 (wipeE en1 vs) F2 H2 en2 → ¬ Ow (wipe σ vs) en2 D0 := fun s o => noD (low _ (s.own _ o))
    let Inv (i : Nat) (H : Hp) : Prop := ∃ F en b xs acc, EO L F H (wipe σ vs) (wipeE en vs) b ∧ Stp L (wipe σ vs) F1 H1 (wipeE en1 vs) F H (wipeE en vs) ∧ ¬ F D0 ∧ H D0 = some (.lst xs) ∧ Reps L.β F H xs acc ∧ acc.length ≤ sizeLine ∧
      lcGo vs tgG t el (ds.drop i) acc (wipeE en vs) b = .ok rF enF bF
    have start : Inv 0 (upd H1 D0 (.lst [])) := ⟨F1, en1, b1, [], [], (o1.grow g1).wiped vs rfl, Stp.refl.poke hD t1, n2, upd_same, .nil, Nat.zero_le _, hr⟩
    refine ⟨fun i m H => m = ds.length - i ∧ i ≤ ds.length ∧ Inv i H, ⟨ds.length, by simp, Nat.zero_le _, start⟩, ?_⟩
    rintro i m H2 ⟨rfl, hi, F2, en2, b2, xs, acc, o2, s2, nD, hD2, ra, hz, eq⟩
    by_cases hlt : i < ds.length
    · have hd : ds[i]? = some ds[i] := List.getElem?_eq_getElem hlt
      obtain ⟨go, yl⟩ := w.go i _ F2 H2 hd s2.le fun a f => (o2.fh a f).1
      refine .inr ⟨go, Inv (i + 1), fun H' z => ⟨ds.length - (i + 1), by omega, rfl, hlt, z⟩, fun x H3 hy => ?_⟩
      obtain ⟨F3, l3, g3, n3', t3, rx⟩ := yl x H3 hy
      have o3 := o2.more g3 l3 n3' t3
      have s3 : Stp L (wipe σ vs) F2 H2 (wipeE en2 vs) F3 H3 (wipeE en2 vs) := Stp.more g3 l3 n3'
      have D3 : H3 D0 = some (.lst xs) := (g3 D0 (by rw [hD2]; simp)).trans hD2
      have nD3 : ¬ F3 D0 := fun f => (n3' D0 f).elim nD fun z => by rw [hD2] at z; cases z
      rw [List.drop_eq_getElem_cons hlt] at eq
      obtain ⟨u, e1, c1, hg, k, e2, c2, ht, rest⟩ := lcGo_cons eq
      rw [wipeE_wipeE en2 vs vs fun _ h => h] at hg
      refine ⟨F3, wipeE en2 vs, b2, ds[i], o3, rx, ?_⟩
      rw [hg]
      intro σ4 o4 w4 k4
      rw [wipe_wipe σ vs vs fun _ h => h] at w4
      refine ⟨w4, F3, e1, c1, o4, ?_⟩
      rw [ht]
      intro F5 H5 l5 o5
      have D5 : ∀ {F6 H6 e6}, Stp L σ4 F3 H3 e1 F6 H6 e6 → H6 D0 = some (.lst xs) ∧ ¬ F6 D0 := fun l => by
        have no : ¬ Ow σ4 e1 D0 := fun o => noF (s2.trans s3) (k4 D0 o)
        refine ⟨(l.oth D0 (by rw [D3]; simp) n3 n4 no).trans D3, fun f => ?_⟩
        rcases l.new D0 f with z | z | z
        · exact nD3 z
        · exact no z
        · rw [D3] at z; cases z
      rcases rest with ⟨rfl, y, e3, c3, he, hzz, eq'⟩ | ⟨rfl, eq'⟩
      · refine iteT ⟨F5, e2, c2, o5, ?_⟩
        rw [he]
        intro v F6 H6 l6 o6 rv
        have l56 := l5.trans l6
        obtain ⟨d6, f6⟩ := D5 l56
        have s6 := (s2.trans s3).trans (l56.blk k4 w4)
        have ra6 : Reps L.β F6 H6 xs acc := (ra.mono l3).mono l56.le
        refine ⟨xs, d6, by rw [ra.len]; exact hzz, ?_⟩
        obtain ⟨o7, l7⟩ := (o6.wiped vs w4).poke (u := .lst (xs ++ [v])) f6 n3 n4 n1 (noF s6)
        exact ⟨F6, e3, c3, xs ++ [v], acc ++ [y], o7, s6.poke hD t1, f6, upd_same, (ra6.append (.cons rv .nil)).mono l7, by rw [List.length_append]; exact hzz, eq'⟩
      · refine iteF ?_
        obtain ⟨d5, f5⟩ := D5 l5
        exact ⟨F5, e2, c2, xs, acc, o5.wiped vs w4, (s2.trans s3).trans (l5.blk k4 w4), f5, d5, (ra.mono l3).mono l5.le, hz, eq'⟩
    · have e : i = ds.length := by omega
      subst e
      rw [List.drop_length] at eq
      have eq2 : Out.ok acc (wipeE en2 vs) b2 = Out.ok rF enF bF := eq
      cases eq2
      refine .inl ⟨w.stop F2 H2 s2.le, ?_⟩
      have om := EO.merged o1 s2.le o2 fun i x hi => wipeE_in en2 hi
      have own : ∀ a, Ow σ (mrgE en1 (wipeE en2 vs) vs) a → Ow σ en1 a := fun a ⟨j, d, h1, h2⟩ => by
        rcases mrgE_get h1 with ⟨_, z, _⟩ | ⟨hj, z⟩
        · cases z
        · rw [← wipe_get σ hj] at h2
          exact low a (s2.own a ⟨j, d, z, h2⟩)
      have sm : Stp L σ F1 H1 en1 F2 H2 (mrgE en1 (wipeE en2 vs) vs) := ⟨s2.le, fun a h m1 m2 m3 => s2.oth a h m1 m2 fun o => m3 (low a o), fun a f => (s2.new a f).imp id (.imp (low a) id), own, s2.th⟩
      refine q _ F2 H2 (l1.trans sm) om ⟨D0, rfl, ⟨nD, n3, n4, n1, xs, hD2, ra⟩, fun j d' h1 h2 => noD (own D0 ⟨j, d', h1, h2⟩)⟩ fun _ a e => ?_
      cases e
      by_cases h0 : H D0 = none
      · exact h0
      · exact absurd hD (l1.th D0 h0)
end
end PL
namespace PL
open PySem PySem.Spec PyProof.Rows L2

section
variable {X : Cx} {L : Lo} {W : WX} {F F' : Addr → Prop} {H H' : Hp} {σ : St} {en : SE} {b : Bg}
variable {a c e : Expr} {pos : Pos} {st : Stmt}
/-- [elt for tg in iter if ..]; own: the block's own names with their slots -/
theorem rx_lc {elt tg iter : Expr} {ifs : List Expr} {scope : Scope} {own : List (Str × Nat)} {it : M (List D)} {g : D → M Unit} {t : M Bool} {el : M D} (hc : X.calm = true) (hN : X.N.Nodup) (hi : RI X L W tg iter it) (ok : BlkOk X.N X.env.scope scope own)
    (hg : ∀ (s : Shared) (H : Hp) (C : Addr) (cl : List (Str × Addr)) (fp : List Addr), RG (X.blk s H scope (compEnvC scope cl C X.env) fp) L (own.map (·.2)) tg g) (ht : ∀ (s : Shared) (H : Hp) (C : Addr) (cl : List (Str × Addr)) (fp : List Addr), RTs (X.blk s H scope (compEnvC scope cl C X.env) fp) L WF ifs t)
    (he : ∀ (s : Shared) (H : Hp) (C : Addr) (cl : List (Str × Addr)) (fp : List Addr), RE (X.blk s H scope (compEnvC scope cl C X.env) fp) L WF elt el) (hs : ∀ x, foldedSetIterable iter X.env x = pure x := by intro _; rfl) :
    RX X L W (.ListComp elt [⟨tg, iter, ifs, 0⟩] scope pos) (lcM (own.map (·.2)) it g t el) := peImp (pe_lc hc hN hi ok hg ht he hs) fun _ _ _ h => lc_reading h
/-- name = [..] on one line, the name a local -/
theorem rs_lc {i : Nat} {y : Str} {py spos : Pos} {elt tg iter : Expr} {ifs : List Expr} {scope : Scope} {own : List (Str × Nat)} {it : M (List D)} {g : D → M Unit} {t : M Bool} {el : M D} (hc : X.calm = true) (hN : X.N.Nodup) (hy : X.N[i]? = some y) (hyl : X.env.scope.names.lookup y = some .local)
    (hsw : swapsWith (.ListComp elt [⟨tg, iter, ifs, 0⟩] scope pos) (some (.Name y py)) spos.line X.env = pure true) (hi : RI X L W tg iter it) (ok : BlkOk X.N X.env.scope scope own)
    (hg : ∀ (s : Shared) (H : Hp) (C : Addr) (cl : List (Str × Addr)) (fp : List Addr), RG (X.blk s H scope (compEnvC scope cl C X.env) fp) L (own.map (·.2)) tg g) (ht : ∀ (s : Shared) (H : Hp) (C : Addr) (cl : List (Str × Addr)) (fp : List Addr), RTs (X.blk s H scope (compEnvC scope cl C X.env) fp) L WF ifs t)
    (he : ∀ (s : Shared) (H : Hp) (C : Addr) (cl : List (Str × Addr)) (fp : List Addr), RE (X.blk s H scope (compEnvC scope cl C X.env) fp) L WF elt el) (hs : ∀ x, foldedSetIterable iter X.env x = pure x := by intro _; rfl) :
    RS X L W (.Assign [.Name y py] (.ListComp elt [⟨tg, iter, ifs, 0⟩] scope pos) spos) (asgM i (lcM (own.map (·.2)) it g t el)) := rs_asgN (ps_setLc hc hN hy hyl hsw hi ok hg ht he hs) fun _ _ _ h => lc_reading h

/-! ### a list that a name owns is changed -/
theorem EO.wrL (o : EO L F H σ en b) {i : Nat} {ds : List D} (h : en[i]? = some (some (true, .list ds))) :
    ∃ p xs, σ[i]? = some (some (V.ref p)) ∧ H p = some (.lst xs) ∧ Reps L.β F H xs ds ∧ ∀ ys zs, Reps L.β F H ys zs →
      EO L F (upd H p (.lst ys)) σ (en.set i (some (true, .list zs))) b ∧ Stp L σ F H en F (upd H p (.lst ys)) (en.set i (some (true, .list zs))) := by
  obtain ⟨p, h1, w⟩ := o.ow i _ h
  obtain ⟨xs, hx, rx⟩ := w.top
  refine ⟨p, xs, h1, hx, rx, fun ys zs r => ?_⟩
  have hi : i < en.length := (List.getElem?_eq_some_iff.mp h).1
  have off : ∀ q, q ≠ p → upd H p (.lst ys) q = H q := fun q hq => upd_ne hq
  have le : Le F H F (upd H p (.lst ys)) := fun q f => ⟨f, off q fun z => w.nf (z ▸ f)⟩
  have get : ∀ (j : Nat) x, (en.set i (some (true, .list zs)))[j]? = some (some x) → (j = i ∧ x = (true, .list zs)) ∨ (j ≠ i ∧ en[j]? = some (some x)) := fun j x e => by
    by_cases hj : j = i
    · subst hj
      rw [List.getElem?_set_self hi] at e
      exact .inl ⟨rfl, (Option.some.inj (Option.some.inj e)).symm⟩
    · rw [List.getElem?_set_ne (Ne.symm hj)] at e
      exact .inr ⟨hj, e⟩
  refine ⟨⟨fun q f => ⟨by rw [(le q f).2]; exact (o.fh q f).1, (o.fh q f).2⟩, fun q hq n1 n2 => by rw [off q fun z => hq (z ▸ w.new)]; exact o.ent q hq n1 n2, o.f0, o.fn, by rw [List.length_set]; exact o.len, fun j d e => ?_, fun j d e => ?_, fun j k d1 d2 q hjk e1 e2 => ?_, o.bg.at (off _ (Ne.symm w.nb)) (off _ (Ne.symm w.nc))⟩,
    ⟨le, fun q hq n1 n2 n3 => off q fun z => n3 ⟨i, _, h, by rw [z]; exact h1⟩, fun q f => .inl f, fun q ⟨j, d, e1, e2⟩ => ?_, fun q hq => ?_⟩⟩
  · rcases get j _ e with ⟨_, z⟩ | ⟨_, z⟩
    · cases z
    · obtain ⟨v, k1, k2⟩ := o.sl j d z
      exact ⟨v, k1, k2.mono le⟩
  · rcases get j _ e with ⟨rfl, z⟩ | ⟨hj, z⟩
    · cases z
      exact ⟨p, h1, w.nf, w.nb, w.nc, w.new, ys, upd_same, r.mono le⟩
    · obtain ⟨q, k1, k2⟩ := o.ow j d z
      have hq : q ≠ p := fun z' => o.di j i d _ q hj z h k1 (by rw [z']; exact h1)
      exact ⟨q, k1, k2.nf, k2.nb, k2.nc, k2.new, k2.top.mono le (off q hq)⟩
  · rcases get j _ e1 with ⟨rfl, z⟩ | ⟨hj, z⟩
    · rcases get k _ e2 with ⟨rfl, z2⟩ | ⟨hk, z2⟩
      · exact absurd rfl hjk
      · exact o.di j k _ d2 q hjk h z2
    · rcases get k _ e2 with ⟨rfl, z2⟩ | ⟨hk, z2⟩
      · exact o.di j k d1 _ q hjk z h
      · exact o.di j k d1 d2 q hjk z z2
  · rcases get j _ e1 with ⟨rfl, z⟩ | ⟨hj, z⟩
    · exact ⟨j, _, h, e2⟩
    · exact ⟨j, d, z, e2⟩
  · by_cases z : q = p
    · subst z; rw [upd_same]; simp
    · rw [off q z]; exact hq
/-- the name owns a list -/
def ownL (i : Nat) : M (List D) := fun en b => match en[i]? with
  | some (some (true, .list ds)) => .ok ds en b
  | _ => .stuck
theorem ownL_ok (i : Nat) (en : SE) (b : Bg) : (∃ ds, en[i]? = some (some (true, .list ds)) ∧ ownL i en b = .ok ds en b) ∨ ownL i en b = .stuck := by
  unfold ownL
  match h : en[i]? with
  | some (some (true, .list ds)) => exact .inl ⟨ds, rfl, rfl⟩
  | some (some (true, .none)) => exact .inr rfl
  | some (some (true, .bool _)) => exact .inr rfl
  | some (some (true, .int _)) => exact .inr rfl
  | some (some (true, .str _)) => exact .inr rfl
  | some (some (true, .tuple _)) => exact .inr rfl
  | some (some (true, .dict _)) => exact .inr rfl
  | some (some (false, _)) => exact .inr rfl
  | some none => exact .inr rfl
  | none => exact .inr rfl
/-- the list that the name owns becomes another one; a value is handed out -/
def putL (i : Nat) (o : List D → List D → Option (List D × D)) (args : List D) : M D := fun en b => match en[i]? with
  | some (some (true, .list ds)) => match o ds args with
    | some (zs, r) => .ok r (en.set i (some (true, .list zs))) b
    | none => .stuck
  | _ => .stuck
theorem putL_ok {i : Nat} {o : List D → List D → Option (List D × D)} {args : List D} {en : SE} {b : Bg} : (∃ ds zs r, en[i]? = some (some (true, .list ds)) ∧ o ds args = some (zs, r) ∧ putL i o args en b = .ok r (en.set i (some (true, .list zs))) b) ∨ putL i o args en b = .stuck := by
  unfold putL
  match h : en[i]? with
  | some (some (true, .list ds)) =>
    match h2 : o ds args with
    | some (zs, r) => exact .inl ⟨ds, zs, r, rfl, h2, by simp [h2]⟩
    | none => exact .inr (by simp [h2])
  | some (some (true, .none)) => exact .inr rfl
  | some (some (true, .bool _)) => exact .inr rfl
  | some (some (true, .int _)) => exact .inr rfl
  | some (some (true, .str _)) => exact .inr rfl
  | some (some (true, .tuple _)) => exact .inr rfl
  | some (some (true, .dict _)) => exact .inr rfl
  | some (some (false, _)) => exact .inr rfl
  | some none => exact .inr rfl
  | none => exact .inr rfl
/-- what a method of a list that is a name's does: r by values, o by data -/
def MutS (L : Lo) (r : V → List V → Hp → VK → Prop) (o : List D → List D → Option (List D × D)) : Prop :=
  ∀ F H p xs ds vs as zs rr (Q : VK), H p = some (.lst xs) → Reps L.β F H xs ds → Reps L.β F H vs as → o ds as = some (zs, rr) →
    (∀ ys v, Reps L.β F H ys zs → Rep L.β F H v rr → Q v (upd H p (.lst ys))) → r (.ref p) vs H Q
def methM (i : Nat) (o : List D → List D → Option (List D × D)) (f : M (List D)) : M D := (ownL i).bind fun _ => f.bind fun as => putL i o as
theorem rep_upd {p : Addr} {u : HO} {v : V} {d : D} (nf : ¬ F p) (r : Rep L.β F H v d) : Rep L.β F (upd H p u) v d := r.mono fun q f => ⟨f, upd_ne fun (z : q = p) => nf (by rw [← z]; exact f)⟩
theorem re_meth {i : Nat} {id : String} {name : Str} {apos : Pos} {es : List Expr} {f : M (List D)} {r : V → List V → Hp → VK → Prop} {o : List D → List D → Option (List D × D)}
    (h : PE X e (tBM X.K "list" r (tVar i) (tA L W f))) (hs : MutS L r o) : RE X L W e (methM i o f) := peImp h fun σ H Q ⟨F, en, b, eo, q⟩ => by
  unfold methM M.bind at q
  rcases ownL_ok i en b with ⟨ds, hd, hw⟩ | hw
  · rw [hw] at q
    dsimp only at q
    obtain ⟨p, xs, h1, hx, rx, _⟩ := eo.wrL hd
    refine ⟨_, h1, .inl ⟨rfl, _, .inl (.inl hx)⟩, F, en, b, eo, ?_⟩
    cases hf : f en b with
    | stuck => rw [hf] at q; exact q
    | exc x en' b' => rw [hf] at q; exact q
    | ok as en' b' =>
      rw [hf] at q
      intro vs F2 H2 l o2 rs
      dsimp only at q
      rcases putL_ok (i := i) (o := o) (args := as) (en := en') (b := b') with ⟨ds2, zs, rr, hd2, ho, hp⟩ | hp
      · rw [hp] at q
        obtain ⟨p2, xs2, k1, kx, krx, wr⟩ := o2.wrL hd2
        rw [h1] at k1
        cases k1
        have nf : ¬ F2 p := by
          obtain ⟨p3, m1, m2⟩ := o2.ow i _ hd2
          rw [h1] at m1
          cases m1
          exact m2.nf
        refine hs F2 H2 p xs2 ds2 vs as zs rr Q kx krx rs ho fun ys v ry rv => ?_
        obtain ⟨e3, s3⟩ := wr ys zs ry
        exact q v F2 _ (l.trans s3) e3 (rep_upd nf rv)
      · rw [hp] at q
        exact q.elim
  · rw [hw] at q
    exact q.elim
/-- append, extend, pop, pop(i), insert -/
def oAppend : List D → List D → Option (List D × D)
  | ds, [x] => if ds.length < sizeLine then some (ds ++ [x], .none) else none
  | _, _ => none
def oExtend : List D → List D → Option (List D × D)
  | ds, [.list xs] => if ds.length + xs.length ≤ sizeLine then some (ds ++ xs, .none) else none
  | _, _ => none
def oPop : List D → List D → Option (List D × D)
  | ds, [] => (ds[ds.length - 1]?).map fun x => (ds.dropLast, x)
  | _, _ => none
def oPopAt : List D → List D → Option (List D × D)
  | ds, [.int i] => if decide (-(2 ^ 63) ≤ i) && decide (i < 2 ^ 63) then (seqIndex? i ds.length).bind fun k => (ds[k]?).map fun x => (ds.eraseIdx k, x) else none
  | _, _ => none
theorem one_rep {vs : List V} {x : D} (r : Reps L.β F H vs [x]) : ∃ v, vs = [v] ∧ Rep L.β F H v x := by
  cases r with
  | cons r t =>
    cases t
    exact ⟨_, rfl, r⟩
theorem oAppend_ok : MutS L rAppend oAppend := by
  intro F H p xs ds vs as zs rr Q hp rx rs e q
  match as, e, rs with
  | [x], e, rs =>
    obtain ⟨hc, e2⟩ := iteSome e
    cases e2
    obtain ⟨v, rfl, rv⟩ := one_rep (L := L) rs
    exact ⟨p, xs, v, rfl, rfl, hp, by rw [rx.len]; exact hc, q _ _ (rx.append (.cons rv .nil)) .non⟩
theorem oExtend_ok : MutS L rExtend oExtend := by
  intro F H p xs ds vs as zs rr Q hp rx rs e q
  match as, e, rs with
  | [.list ys], e, rs =>
    obtain ⟨hc, e2⟩ := iteSome e
    cases e2
    obtain ⟨v, rfl, rv⟩ := one_rep (L := L) rs
    cases rv with
    | lst f h r => exact ⟨p, _, xs, _, rfl, rfl, hp, h, by rw [rx.len, r.len]; exact hc, q _ _ (rx.append r) .non⟩
theorem oPop_ok : MutS L rPop oPop := by
  intro F H p xs ds vs as zs rr Q hp rx rs e q
  match as, e, rs with
  | [], e, rs =>
    obtain ⟨x, hx, e2⟩ := mapSome e
    cases e2
    cases rs
    obtain ⟨y, hy, ry⟩ := rx.get hx
    exact ⟨p, xs, y, rfl, rfl, hp, by rw [rx.len]; exact hy, q _ _ rx.dropLast ry⟩
theorem oPopAt_ok : MutS L rPopAt oPopAt := by
  intro F H p xs ds vs as zs rr Q hp rx rs e q
  match as, e, rs with
  | [.int i], e, rs =>
    have e' : (if (decide (-(2 ^ 63) ≤ i) && decide (i < 2 ^ 63)) = true then (seqIndex? i ds.length).bind fun k => (ds[k]?).map fun x => (ds.eraseIdx k, x) else none) = some (zs, rr) := e
    by_cases hc : (decide (-(2 ^ 63) ≤ i) && decide (i < 2 ^ 63)) = true
    · rw [if_pos hc] at e'
      simp only [Bool.and_eq_true, decide_eq_true_eq] at hc
      cases hk : seqIndex? i ds.length with
      | none => rw [hk] at e'; cases e'
      | some k =>
        rw [hk] at e'
        obtain ⟨x, hx, e2⟩ := mapSome e'
        cases e2
        obtain ⟨v, rfl, rv⟩ := one_rep (L := L) rs
        cases rv
        obtain ⟨y, hy, ry⟩ := rx.get hx
        exact ⟨p, xs, i, k, y, rfl, rfl, hp, hc.1, hc.2, by rw [rx.len]; exact hk, hy, q _ _ (rx.erase k) ry⟩
    · rw [if_neg hc] at e'
      cases e'
theorem mt_of {id : String} {r : V → List V → Hp → VK → Prop} (h : MtM X id r) : MtR X id r := by exact h
theorem re_append {i : Nat} {apos : Pos} {f : M (List D)} (h : PE X (.Call (.Attribute a "append" apos) [c] [] pos) (tBM X.K "list" rAppend (tVar i) (tA L W f))) : RE X L W (.Call (.Attribute a "append" apos) [c] [] pos) (methM i oAppend f) := re_meth (id := "list.append") (name := "append") (apos := apos) (es := [c]) h oAppend_ok
theorem re_extend {i : Nat} {apos : Pos} {f : M (List D)} (h : PE X (.Call (.Attribute a "extend" apos) [c] [] pos) (tBM X.K "list" rExtend (tVar i) (tA L W f))) : RE X L W (.Call (.Attribute a "extend" apos) [c] [] pos) (methM i oExtend f) := re_meth (id := "list.extend") (name := "extend") (apos := apos) (es := [c]) h oExtend_ok
theorem re_popAt {i : Nat} {apos : Pos} {f : M (List D)} (h : PE X (.Call (.Attribute a "pop" apos) [c] [] pos) (tBM X.K "list" rPopAt (tVar i) (tA L W f))) : RE X L W (.Call (.Attribute a "pop" apos) [c] [] pos) (methM i oPopAt f) := re_meth (id := "list.pop") (name := "pop") (apos := apos) (es := [c]) h oPopAt_ok
theorem re_pop {i : Nat} {apos : Pos} (h : PE X (.Call (.Attribute a "pop" apos) [] [] pos) (tBM0 X.K "list" rPop (tVar i))) : RE X L W (.Call (.Attribute a "pop" apos) [] [] pos) (methM i oPop (M.ret [])) :=
  re_meth (id := "list.pop") (name := "pop") (apos := apos) (es := []) (peImp h fun σ H Q ⟨v, hv, ty, F, en, b, eo, q⟩ => ⟨v, hv, ty, q [] F H .refl eo .nil⟩) oPop_ok

/-! ### x[i] = e, x a name that owns a list -/
def setItem' (i : Nat) (k : D) (d : D) : M Unit := fun en b => match en[i]?, k with
  | some (some (true, .list ds)), .int z => match ixN ds.length z with
    | some j => .ok () (en.set i (some (true, .list (ds.set j d)))) b
    | none => .stuck
  | _, _ => .stuck
theorem setItem'_ok {i : Nat} {k d : D} {en : SE} {b : Bg} : (∃ ds z j, en[i]? = some (some (true, .list ds)) ∧ k = .int z ∧ ixN ds.length z = some j ∧ setItem' i k d en b = .ok () (en.set i (some (true, .list (ds.set j d)))) b) ∨ setItem' i k d en b = .stuck := by
  rcases ownL_ok i en b with ⟨ds, hd, _⟩ | hw
  · cases k with
    | int z =>
      unfold setItem'
      rw [hd]
      dsimp only
      cases hj : ixN ds.length z with
      | none => exact .inr rfl
      | some j => exact .inl ⟨ds, z, j, rfl, rfl, hj, rfl⟩
    | _ => exact .inr (by unfold setItem'; rw [hd])
  · refine .inr ?_
    unfold ownL at hw
    unfold setItem'
    match h : en[i]? with
    | some (some (true, .list ds)) => rw [h] at hw; cases hw
    | some (some (true, .none)) => rfl
    | some (some (true, .bool _)) => rfl
    | some (some (true, .int _)) => rfl
    | some (some (true, .str _)) => rfl
    | some (some (true, .tuple _)) => rfl
    | some (some (true, .dict _)) => rfl
    | some (some (false, _)) => rfl
    | some none => rfl
    | none => rfl
/-- the value first, then the name, then the index -/
def asgI (i : Nat) (f g : M D) : M Fl := f.bind fun d => (ownL i).bind fun _ => g.bind fun k => (setItem' i k d).bind fun _ => M.ret .nx
theorem rs_setI {i : Nat} {f g : M D} (h : PS X st (tAsg (tD L W f) (gSub (tVar i) (tD L W g) rSetL))) : RS X L W st (asgI i f g) := psImp h fun Dn σ H ⟨F, en, b, eo, q⟩ => ⟨F, en, b, eo, by
  unfold asgI M.bind at q
  cases hf : f en b with
  | stuck => rw [hf] at q; exact q
  | exc x en' b' => rw [hf] at q; exact fun F2 H2 cls dd l o2 => q σ F2 H2 cls dd l o2
  | ok d en1 b1 =>
    rw [hf] at q
    intro v F1 H1 l1 o1 rv
    dsimp only at q
    rcases ownL_ok i en1 b1 with ⟨ds, hd, hw⟩ | hw
    · rw [hw] at q
      dsimp only at q
      obtain ⟨p, xs, h1, hx, rx, _⟩ := o1.wrL hd
      refine ⟨_, h1, F1, en1, b1, o1, ?_⟩
      cases hg : g en1 b1 with
      | stuck => rw [hg] at q; exact q
      | exc x en' b' => rw [hg] at q; exact fun F2 H2 cls dd l2 o2 x2 => q σ F2 H2 cls dd (l1.le.trans l2) o2 x2
      | ok kd en2 b2 =>
        rw [hg] at q
        intro kv F2 H2 l2 o2 rk
        dsimp only at q
        rcases setItem'_ok (i := i) (k := kd) (d := d) (en := en2) (b := b2) with ⟨ds2, z, j, hd2, rfl, hj, hp⟩ | hp
        · rw [hp] at q
          obtain ⟨p2, xs2, k1, kx, krx, wr⟩ := o2.wrL hd2
          rw [h1] at k1
          cases k1
          cases rk
          obtain ⟨e3, s3⟩ := wr (xs2.set j v) (ds2.set j d) (krx.set (rv.mono l2.le) j)
          exact ⟨p, xs2, z, j, rfl, rfl, kx, by rw [krx.len]; exact hj, q σ F2 _ ((l1.trans l2).trans s3).le e3⟩
        · rw [hp] at q
          exact q.elim
    · rw [hw] at q
      exact q.elim⟩
end
end PL
namespace PL
open PySem PySem.Spec PyProof.Rows L2

/-! ### what a def promises -/
/-- a def's outcome by data -/
inductive Ou where
  | stuck
  | ok (r : Bool × D) (b : Bg)
  | exc (x : Xn) (b : Bg)
abbrev Fn := List D → Bg → Ou
/-- behind a call -/
structure Aft (β γ : Addr) (F : Addr → Prop) (H : Hp) (F' : Addr → Prop) (H' : Hp) (b' : Bg) : Prop where
  keep : ∀ a, H a ≠ none → a ≠ β → a ≠ γ → H' a = H a
  f0 : ∀ a, F a → F' a
  fn : ∀ a, F' a → F a ∨ H a = none
  fh : ∀ a, F' a → H' a ≠ none ∧ a ≠ β ∧ a ≠ γ
  bg : BagOk β γ H' b'
def RetOk (β γ : Addr) (H : Hp) (F' : Addr → Prop) (H' : Hp) (v : V) : Bool × D → Prop
  | (false, d) => Rep β F' H' v d
  | (true, d) => ∃ a, v = .ref a ∧ ¬ F' a ∧ a ≠ β ∧ a ≠ γ ∧ H a = none ∧ Top β F' H' a d
abbrev ExR := Xn → Value → Option Addr → Hp → Prop
def spM (β γ : Addr) (xr : ExR) (n : Nat) (m : Fn) : Sp := fun vs H Q E => vs.length = n ∧ ∃ F ds b, (∀ a, F a → H a ≠ none ∧ a ≠ β ∧ a ≠ γ) ∧ Reps β F H vs ds ∧ BagOk β γ H b ∧ match m ds b with
  | .stuck => False
  | .ok r b' => ∀ v F' H', Aft β γ F H F' H' b' → RetOk β γ H F' H' v r → Q v H'
  | .exc x b' => ∀ F' H' cls dd, Aft β γ F H F' H' b' → xr x cls dd H' → E cls dd H'

/-! ### a def in the heap keeps a promise; nothing is being shown (repr) around it -/
structure FnG (P : Program) (w : World) (K : PySem.W.Frag) (mg : Str → Option Value) (base : Heap) (k : Nat) (f : Addr) (fd : FuncData) (ps : List Str) (sp : Sp) : Prop where
  len : ∀ vs H Q E, sp vs H Q E → vs.length = ps.length
  run : ∀ {A : Around} {outer : List Env} {s : Shared} {H : Hp} {args : Args} {us : List Value} {vs : List V} {Q : VK} {E : XK}, Room k A → A.guards = some [] → Env0 P w K mg base A outer s H →
    BindsTo s fd args (ps.zip us) → Vals vs us → sp vs H Q E → codeAny (model P w) A (.call (.ref f) args) (CR (CX P w) outer P w H s Q E) s
theorem FnG.mono {P w K mg base j k f fd ps sp} (F : FnG P w K mg base j f fd ps sp) (h : j ≤ k) : FnG P w K mg base k f fd ps sp := ⟨F.len, fun hr => F.run (hr.mono h)⟩
theorem guards_deeper {A : Around} (env : Env) (h : A.guards = some []) : (A.deeper env).guards = some [] := by
  first | exact h | simpa [Around.deeper] using h

section
variable {P : Program} {w : World} {K : PySem.W.Frag} {mg : Str → Option Value} {base : Heap} {x qual : Str} {params : Arguments} {body : List Stmt} {scope : Scope} {f : Addr} {fd : FuncData} {N ps : List Str} {k : Nat} {sp : Sp}
/-- a def by its body -/
theorem FnG.of (Fd : FunD K x qual params body scope [] [] f fd) (S : FnScope N ps scope) (len : ∀ vs H Q E, sp vs H Q E → vs.length = ps.length)
    (hbody : ∀ (cdv : Value) (A : Around) (outer : List Env) (s : Shared) (H : Hp) (vs : List V) (Q : VK) (E : XK), Room k (A.deeper (envOfC qual scope s.heap.objs.size f cdv)) → (A.deeper (envOfC qual scope s.heap.objs.size f cdv)).guards = some [] → sp vs H Q E →
      ∃ t, PSs (cxOf (CX P w) P w K mg base N qual scope f cdv A outer s H E) body t ∧ t { nx := fun _ H' => Q .non H', rt := Q } (L2.start N vs) H) : FnG P w K mg base (k + 1) f fd ps sp := by
  obtain ⟨oc, od, dV, kV, doc, pm, an, cdv, ct, osl, rfl, lk, hcd, _, _⟩ := Fd.ex
  refine ⟨len, fun {A outer s H args us vs Q E} hr hgd e0 hb r hsp => ?_⟩
  have hin : ∀ b o, base.get? b = some o → s.heap.get? b = some o := fun b o e => (e0.bs b o e).1
  have inK : K.In s.heap := e0.mod.kin.keeps hin
  refine codeAny_call_function hr.depth (inK _ _ lk) rfl S.co S.gen rfl (PySem.W.codeRec_of inK hcd) (hb _ _ _ _ ?_)
  refine wpAny_newFunctionEnv_cells S.kind (fun y hy => (S.par y.1 (List.of_mem_zip hy).1).imp id fun q => ⟨q, PySem.W.cellsFrom_some _ _ _ (.inl q)⟩) fun env he s1 hx => ?_
  subst he
  refine ⟨(e0.mod.nolimit.keeps hin).keeps hx.toInCall.keep, codeAny_func ?_⟩
  obtain ⟨t, ht, hq⟩ := hbody cdv A outer s H vs Q E (hr.deeper _) (guards_deeper _ hgd) hsp
  refine wpAny_mono (ht.run [] s1 (L2.start N vs) H _ (inv_start S hr.hd e0 (len _ _ _ _ hsp) r hx) hq) (fun fl s' hs => ?_) fun _ _ hs => hs
  cases fl with
  | ret u =>
    obtain ⟨v, σ', H', J, rv, q⟩ := hs
    exact ⟨v, H', J.os, J.bare, J.base, J.hok, rv, q⟩
  | next =>
    obtain ⟨σ', H', J, q⟩ := hs
    exact ⟨V.non, H', J.os, J.bare, J.base, J.hok, rfl, q⟩
  | brk =>
    obtain ⟨_, _, _, q⟩ := hs
    exact q.elim
  | cont =>
    obtain ⟨_, _, _, q⟩ := hs
    exact q.elim
/-- the outcome of a body from its arguments: N names, the first n of them parameters -/
def fnM (n N : Nat) (body : M Fl) : Fn := fun ds b => if ds.length = n then
    match body (ds.map (fun d => some (false, d)) ++ List.replicate (N - n) none) b with
    | .stuck => .stuck
    | .ok .nx _ b' => .ok (false, .none) b'
    | .ok (.rt r) _ b' => .ok r b'
    | .ok _ _ _ => .stuck
    | .exc x _ b' => .exc x b'
  else .stuck
theorem start_get {N : List Str} {vs : List V} {i : Nat} (h : i < vs.length) : (L2.start N vs)[i]? = vs[i]?.map some := by
  unfold L2.start
  rw [List.getElem?_append_left (by simpa using h), List.getElem?_map]
theorem start_EO {L : Lo} {F : Addr → Prop} {H : Hp} {vs : List V} {ds : List D} {b : Bg} (hH : L.H0 = H) (hF : L.F0 = F) (fh : ∀ a, F a → H a ≠ none ∧ a ≠ L.β ∧ a ≠ L.γ) (r : Reps L.β F H vs ds) (bg : BagOk L.β L.γ H b) :
    EO L F H (L2.start N vs) (ds.map (fun d => some (false, d)) ++ List.replicate (N.length - ds.length) none) b := by
  have low : ∀ (i : Nat) k d, (ds.map (fun d => some (false, d)) ++ List.replicate (N.length - ds.length) (none : Option (Bool × D)))[i]? = some (some (k, d)) → k = false ∧ ds[i]? = some d := fun i k d h => by
    by_cases hi : i < ds.length
    · rw [List.getElem?_append_left (by simpa using hi), List.getElem?_map] at h
      cases q : ds[i]? with
      | none => rw [q] at h; cases h
      | some x => rw [q] at h; cases h; exact ⟨rfl, rfl⟩
    · rw [List.getElem?_append_right (by simpa using hi), List.getElem?_replicate] at h
      split at h <;> cases h
  refine ⟨fh, fun a _ _ _ => by rw [hH], fun a h => by rw [hF] at h; exact h, fun a h => .inl (by rw [hF]; exact h), ?_, fun i d h => ?_, fun i d h => ?_, fun i j d d' a _ h _ _ _ => ?_, bg⟩
  · unfold L2.start
    simp only [List.length_append, List.length_map, List.length_replicate, r.len]
  · obtain ⟨_, h⟩ := low i _ d h
    obtain ⟨v, h1, h2⟩ := r.get h
    refine ⟨v, ?_, h2⟩
    rw [start_get (List.getElem?_eq_some_iff.mp h1).1, h1]
    rfl
  · exact absurd (low i _ d h).1 (by decide)
  · exact absurd (low i _ d h).1 (by decide)
/-- THE RULE for a def by data -/
theorem FnG.ofM {β γ : Addr} {xr : ExR} {n : Nat} {body' : M Fl} (Fd : FunD K x qual params body scope [] [] f fd) (S : FnScope N ps scope) (hn : ps.length = n)
    (hbody : ∀ (cdv : Value) (A : Around) (outer : List Env) (s : Shared) (H : Hp) (F0 : Addr → Prop) (E : XK), Room k (A.deeper (envOfC qual scope s.heap.objs.size f cdv)) → (A.deeper (envOfC qual scope s.heap.objs.size f cdv)).guards = some [] →
      Takes (cxOf (CX P w) P w K mg base N qual scope f cdv A outer s H E) (fun cls d _ H' => E cls d H') → PassesOwn (model P w) (A.deeper (envOfC qual scope s.heap.objs.size f cdv)) (envOfC qual scope s.heap.objs.size f cdv) (cxOf (CX P w) P w K mg base N qual scope f cdv A outer s H E).xe →
      RSs (cxOf (CX P w) P w K mg base N qual scope f cdv A outer s H E) ⟨K, β, γ, H, F0, xr⟩ (fun cls d _ H' => E cls d H') body body') : FnG P w K mg base (k + 1) f fd ps (spM β γ xr n (fnM n N.length body')) := by
  refine .of Fd S (fun vs H Q E h => h.1.trans hn.symm) fun cdv A outer s H vs Q E hr hgd ⟨hl, F, ds, b, fh, r, bg, q⟩ => ?_
  refine ⟨_, hbody cdv A outer s H F E hr hgd (takes_of rfl rfl rfl rfl) (passes_of (X := cxOf (CX P w) P w K mg base N qual scope f cdv A outer s H E) rfl), F, _, b, start_EO (L := ⟨K, β, γ, H, F, xr⟩) rfl rfl fh r bg, ?_⟩
  have hd : ds.length = n := r.len.symm.trans hl
  unfold fnM at q
  rw [if_pos hd, ← hd] at q
  have aft : ∀ {σ' F' H' en' b'}, EO ⟨K, β, γ, H, F, xr⟩ F' H' σ' en' b' → Aft β γ F H F' H' b' := fun o => ⟨o.ent, o.f0, o.fn, o.fh, o.bg⟩
  cases hb : body' (ds.map (fun d => some (false, d)) ++ List.replicate (N.length - ds.length) none) b with
  | stuck => rw [hb] at q; exact q.elim
  | exc e en' b' =>
    rw [hb] at q
    exact fun σ' F' H' cls dd l o he => q F' H' cls dd (aft o) he
  | ok fl en' b' =>
    rw [hb] at q
    intro σ' F' H' l o
    cases fl with
    | nx => exact q .non F' H' (aft o) .non
    | brk => exact q.elim
    | ct => exact q.elim
    | rt rr =>
      obtain ⟨kf, d⟩ := rr
      intro v rv
      refine q v F' H' (aft o) ?_
      cases kf with
      | false => exact rv
      | true =>
        obtain ⟨a, rfl, w, _⟩ := rv
        exact ⟨a, rfl, w.nf, w.nb, w.nc, w.new, w.top⟩
end

/-! ### calls -/
section
variable {X : Cx} {L : Lo} {W : WX} {F F' : Addr → Prop} {H H' : Hp} {σ : St} {en : SE} {b : Bg}
theorem Aft.eo {b' : Bg} (o : EO L F H σ en b) (a : Aft L.β L.γ F H F' H' b') : EO L F' H' σ en b' ∧ Stp L σ F H en F' H' en := by
  have le : Le F H F' H' := fun p f => ⟨a.f0 p f, a.keep p (o.fh p f).1 (o.fh p f).2.1 (o.fh p f).2.2⟩
  have th : ∀ p, H p ≠ none → H' p ≠ none := fun p h => by
    by_cases h1 : p = L.β
    · rw [h1]; exact a.bg.th.1
    · by_cases h2 : p = L.γ
      · rw [h2]; exact a.bg.th.2
      · rw [a.keep p h h1 h2]; exact h
  refine ⟨⟨a.fh, fun p h h1 h2 => ?_, fun p f => a.f0 p (o.f0 p f), fun p f => ?_, o.len, fun i d h => ?_, fun i d h => ?_, o.di, a.bg⟩, le, fun p h h1 h2 _ => a.keep p h h1 h2, fun p f => (a.fn p f).imp id .inr, fun p h => h, th⟩
  · have e := o.ent p h h1 h2
    rw [a.keep p (by rw [e]; exact h) h1 h2, e]
  · rcases a.fn p f with z | z
    · exact o.fn p z
    · exact .inr (o.new0 z).1
  · obtain ⟨v, h1, h2⟩ := o.sl i d h
    exact ⟨v, h1, h2.mono le⟩
  · obtain ⟨p, h1, w⟩ := o.ow i d h
    refine ⟨p, h1, fun f => ?_, w.nb, w.nc, w.new, w.top.mono le (a.keep p w.there w.nb w.nc)⟩
    rcases a.fn p f with z | z
    · exact w.nf z
    · exact w.there z
theorem RetOk.res {b' : Bg} (o : EO L F H σ en b) (a : Aft L.β L.γ F H F' H' b') {v : V} {r : Bool × D} (q : RetOk L.β L.γ H F' H' v r) : ResOk L F' H' σ en v r ∧ ResNew H v r := by
  obtain ⟨k, d⟩ := r
  cases k with
  | false => exact ⟨q, fun z => nomatch z⟩
  | true =>
    obtain ⟨p, rfl, h1, h2, h3, h4, h5⟩ := q
    refine ⟨⟨p, rfl, ⟨h1, h2, h3, (o.new0 h4).1, h5⟩, fun i d' hi hs => ?_⟩, fun _ p' e => by cases e; exact h4⟩
    obtain ⟨p', k1, w⟩ := o.ow i d' hi
    rw [hs] at k1
    cases k1
    exact w.there h4
/-- how a call's arguments, positional ones first, come into the parameters' order -/
def permL {α : Type} (p : List Nat) (l : List α) : List α := p.filterMap fun i => l[i]?
theorem permL_vals {vs : List V} {us : List Value} (r : Vals vs us) : ∀ p : List Nat, Vals (permL p vs) (permL p us)
  | [] => .nil
  | i :: p => by
    unfold permL
    rw [List.filterMap_cons, List.filterMap_cons]
    cases h : vs[i]? with
    | none =>
      rw [r.none_of h]
      exact permL_vals r p
    | some v =>
      obtain ⟨u, h1, h2⟩ := r.get h
      rw [h1]
      exact .cons h2 (permL_vals r p)
theorem permL_reps {β : Addr} {vs : List V} {ds : List D} (r : Reps β F H vs ds) : ∀ p : List Nat, Reps β F H (permL p vs) (permL p ds)
  | [] => .nil
  | i :: p => by
    unfold permL
    rw [List.filterMap_cons, List.filterMap_cons]
    cases h : vs[i]? with
    | none =>
      have : ds[i]? = none := List.getElem?_eq_none_iff.mpr (by rw [← r.len]; exact List.getElem?_eq_none_iff.mp h)
      rw [this]
      exact permL_reps r p
    | some v =>
      obtain ⟨u, h1, h2⟩ := r.getV h
      rw [h1]
      exact .cons h2 (permL_reps r p)
def PB (fd : FuncData) (ps ks : List Str) (n : Nat) (p : List Nat) : Prop := ∀ (s : Shared) (us ws : List Value), us.length = n → ws.length = ks.length → BindsTo s fd ⟨us, ks.zip ws⟩ (ps.zip (permL p (us ++ ws)))
theorem PB.mk {K : PySem.W.Frag} {x qual : Str} {params : Arguments} {body : List Stmt} {scope : Scope} {f : Addr} {fd : FuncData} {ps ks : List Str} {n : Nat} {p : List Nat} (Fd : FunD K x qual params body scope [] [] f fd)
    (h : ∀ (kV doc pm : Value) (an : Option Addr) (cdv ct : Value) (us ws : List Value), us.length = n → ws.length = ks.length → bindArgs (PySem.W.fnOf x qual params body scope .none kV doc pm an cdv ct) ⟨us, ks.zip ws⟩ = pure (ps.zip (permL p (us ++ ws)))) : PB fd ps ks n p := by
  obtain ⟨oc, od, dV, kV, doc, pm, an, cdv, ct, osl, rfl, lk, hcd, hD, hK⟩ := Fd.ex
  rcases hD with ⟨_, rfl⟩ | ⟨e, _⟩
  · exact fun s us ws h1 h2 => .of_eq (h kV doc pm an cdv ct us ws h1 h2)
  · exact absurd rfl e
variable {k n nn : Nat} {f : Addr} {fd : FuncData} {ps ks : List Str} {pm : List Nat} {m : Fn} {x : Str} {p pos : Pos} {e : Expr} {es : List Expr} {kws : List Keyword}
theorem run_fnG {pins : List (Addr × Obj)} {s : Shared} {Q : VK} {us ws : List Value} {vs zs : List V} (Fg : FnG X.prog X.w X.K X.mg X.base k f fd ps (spM L.β L.γ L.exr nn m)) (hr : Room k X.A) (hgd : X.A.guards = some []) (hb : PB fd ps ks n pm) (tk : Takes X W)
    (I : Inv X pins σ H s) (r : Vals vs us) (rz : Vals zs ws) (h1 : vs.length = n) (h2 : zs.length = ks.length) (h : spM L.β L.γ L.exr nn m (permL pm (vs ++ zs)) H Q (fun cls d H' => W cls d σ H')) : wpAny (model X.prog X.w) X.A (call (.ref f) us (ks.zip ws)) (EP X pins σ Q) X.xe s := by
  refine wpAny_call (codeAny_mono (Fg.run hr hgd I.env0 (hb s us ws (r.length.symm.trans h1) (rz.length.symm.trans h2)) (permL_vals (r.append rz) pm) h) fun res s' hq => ?_)
  cases res with
  | error u => exact tk u s' (XE.of_call I (fun _ _ _ z => z) hq)
  | ok fl =>
    cases fl with
    | ret u => exact I.after hq
    | next => exact hq.elim
    | brk => exact hq.elim
    | cont => exact hq.elim
/-- a call by data -/
def callM (m : Fn) (pm : List Nat) (n kn : Nat) (f g : M (List D)) : M (Bool × D) := f.bind fun xs => g.bind fun zs => fun en b => if xs.length = n ∧ zs.length = kn then
    match m (permL pm (xs ++ zs)) b with
    | .stuck => .stuck
    | .ok r b' => .ok r en b'
    | .exc x b' => .exc x en b'
  else .stuck
theorem call_reading {t t' : TA} {fa fk : M (List D)} {σ : St} {H : Hp} {Q : VK} (hps : ps.length = nn) (hpm : pm.length = nn ∧ ∀ i ∈ pm, i < n + ks.length) (h : tX L W (callM m pm n ks.length fa fk) σ H Q) :
    tA L W fa σ H fun vs H1 => tA L W fk σ H1 fun zs H2 => vs.length = n ∧ zs.length = ks.length ∧ spM L.β L.γ L.exr nn m (permL pm (vs ++ zs)) H2 Q (fun cls d H' => W cls d σ H') := by
  obtain ⟨F, en, b, eo, q⟩ := h
  refine ⟨F, en, b, eo, ?_⟩
  unfold callM M.bind at q
  cases hf : fa en b with
  | stuck => rw [hf] at q; exact q
  | exc x en' b' => rw [hf] at q; exact q
  | ok xs en1 b1 =>
    rw [hf] at q
    intro vs F1 H1 l1 o1 r1
    dsimp only at q
    refine ⟨F1, en1, b1, o1, ?_⟩
    cases hk : fk en1 b1 with
    | stuck => rw [hk] at q; exact q
    | exc x en' b' => rw [hk] at q; exact fun F2 H2 cls dd l2 o2 x2 => q F2 H2 cls dd (l1.le.trans l2) o2 x2
    | ok zs en2 b2 =>
      rw [hk] at q
      intro us F2 H2 l2 o2 r2
      dsimp only at q
      by_cases hl : xs.length = n ∧ zs.length = ks.length
      · rw [if_pos hl] at q
        have ra := (r1.mono l2.le).append r2
        have al : (vs ++ us).length = n + ks.length := by rw [ra.len, List.length_append, hl.1, hl.2]
        have pl : ∀ (l : List V) (p : List Nat), (∀ i ∈ p, i < l.length) → (permL p l).length = p.length := fun l p hp => by
          induction p with
          | nil => rfl
          | cons i p ih =>
            unfold permL
            rw [List.filterMap_cons, List.getElem?_eq_getElem (hp i (List.mem_cons_self ..))]
            show (permL p l).length + 1 = _
            rw [ih fun j hj => hp j (List.mem_cons_of_mem _ hj)]
            rfl
        refine ⟨by rw [r1.len]; exact hl.1, by rw [r2.len]; exact hl.2, by rw [pl _ _ fun i hi => by rw [al]; exact hpm.2 i hi]; exact hpm.1, F2, _, b2, o2.fh, permL_reps ra pm, o2.bg, ?_⟩
        cases hm : m (permL pm (xs ++ zs)) b2 with
        | stuck => rw [hm] at q; exact q
        | ok r b3 =>
          rw [hm] at q
          intro v F3 H3 af rv
          obtain ⟨o3, s3⟩ := af.eo o2
          obtain ⟨k1, k2⟩ := rv.res o2 af
          exact q v F3 H3 ((l1.trans l2).trans s3) o3 k1 ((k2.back l2).back l1)
        | exc x b3 =>
          rw [hm] at q
          intro F3 H3 cls dd af hx
          obtain ⟨o3, s3⟩ := af.eo o2
          exact q F3 H3 cls dd ((l1.trans l2).trans s3).le o3 hx
      · rw [if_neg hl] at q
        exact q.elim
/-- f(e, ..) -/
theorem rx_call {fa : M (List D)} (Fg : FnG X.prog X.w X.K X.mg X.base k f fd ps (spM L.β L.γ L.exr nn m)) (hr : Room k X.A) (hgd : X.A.guards = some []) (hb : PB fd ps [] n pm) (tk : Takes X W) (hg : Gl X x) (hm : X.mg x = some (.ref f)) (hk : PySem.W.keepIn X.K (.ref f) = true)
    (ha : RA X L W (e :: es) fa) (hps : ps.length = nn := by rfl) (hpm : pm.length = nn ∧ ∀ i ∈ pm, i < n + ([] : List Str).length := by decide) (hdb : (x == ("__debug__" : Str)) = false := by decide) (he : starEach (e :: es) X.env = (false, eval e X.env) :: starEach es X.env := by rfl) (hpl : (backTo pos (starEach es X.env)).any (·.1) = false := by rfl) :
    RX X L W (.Call (.Name x p) (e :: es) [] pos) (callM m pm n 0 fa (M.ret [])) := by
  refine ⟨fun pins s σ H Q I h => ?_⟩
  have h' := call_reading (ks := []) (fk := M.ret []) (t := tNil) (t' := tNil) hps hpm h
  refine wpAny_Call_Name_kw (ld_glob I hg hm ?_ hdb)
  refine PySem.W.callWith_K (h₀ := X.base) I.ok.mod.kin hk (thn (ha.run pos pins s σ H _ I h') fun us s1 ⟨vs, H1, I1, r, q⟩ => ⟨I1.kIn, ?_⟩) he hpl
  obtain ⟨F1, en1, b1, o1, q1⟩ := q
  obtain ⟨z1, z2, z3⟩ := q1 [] F1 H1 .refl o1 .nil
  exact run_fnG (us := us) (ws := []) (zs := []) Fg hr hgd hb tk I1 r .nil z1 z2 z3
/-- f() -/
theorem rx_call0 (Fg : FnG X.prog X.w X.K X.mg X.base k f fd ps (spM L.β L.γ L.exr nn m)) (hr : Room k X.A) (hgd : X.A.guards = some []) (hb : PB fd ps [] n pm) (tk : Takes X W) (hg : Gl X x) (hm : X.mg x = some (.ref f)) (hk : PySem.W.keepIn X.K (.ref f) = true)
    (hps : ps.length = nn := by rfl) (hpm : pm.length = nn ∧ ∀ i ∈ pm, i < n + ([] : List Str).length := by decide) (hdb : (x == ("__debug__" : Str)) = false := by decide) :
    RX X L W (.Call (.Name x p) [] [] pos) (callM m pm n 0 (M.ret []) (M.ret [])) := by
  refine ⟨fun pins s σ H Q I h => ?_⟩
  have h' := call_reading (ks := []) (fa := M.ret []) (fk := M.ret []) (t := tNil) (t' := tNil) hps hpm h
  refine wpAny_Call_Name_kw (ld_glob I hg hm ?_ hdb)
  refine PySem.W.callWith_K0 I.kIn hk ?_
  obtain ⟨F0, en0, b0, o0, q0⟩ := h'
  obtain ⟨F1, en1, b1, o1, q1⟩ := q0 [] F0 H .refl o0 .nil
  obtain ⟨z1, z2, z3⟩ := q1 [] F1 H .refl o1 .nil
  exact run_fnG (us := []) (ws := []) (vs := []) (zs := []) Fg hr hgd hb tk I .nil .nil z1 z2 z3
/-- keyword values -/
abbrev RK (X : Cx) (L : Lo) (W : WX) (kws : List Keyword) (f : M (List D)) : Prop := PK X kws (tA L W f)
theorem pkImp {t t' : TA} (h : PK X kws t) (i : ∀ σ H Q, t' σ H Q → t σ H Q) : PK X kws t' := ⟨fun pos pins s σ H Q I q => h.run pos pins s σ H Q I (i _ _ _ q)⟩
theorem rk_nil : RK X L W [] (M.ret []) := pkImp pk_nil fun σ H Q ⟨F, en, b, o, q⟩ => q [] F H .refl o .nil
theorem rk_cons {nm : Option Str} {kpos : Pos} {ff : M D} {g : M (List D)} (h : RE X L W e ff) (hr : RK X L W kws g) : RK X L W (⟨nm, e, kpos⟩ :: kws) (consM ff g) :=
  pkImp (pk_cons h hr) fun σ H Q ⟨F, en, b, o, q⟩ => ⟨F, en, b, o, by
    unfold consM M.bind M.ret at q
    cases hf : ff en b with
    | stuck => rw [hf] at q; exact q
    | exc x en' b' => rw [hf] at q; exact q
    | ok r en' b' =>
      rw [hf] at q
      intro v F' H' l o' r'
      refine ⟨F', en', b', o', ?_⟩
      dsimp only at q
      cases hg : g en' b' with
      | stuck => rw [hg] at q; exact q
      | exc x en2 b2 => rw [hg] at q; exact fun F2 H2 cls dd l2 o2 x2 => q F2 H2 cls dd (l.le.trans l2) o2 x2
      | ok rs en2 b2 => rw [hg] at q; exact fun vs F2 H2 l2 o2 r2 => q _ F2 H2 (l.trans l2) o2 (.cons (r'.mono l2.le) r2)⟩
/-- f(k = e, ..) -/
theorem rx_callK0 {fk : M (List D)} (Fg : FnG X.prog X.w X.K X.mg X.base k f fd ps (spM L.β L.γ L.exr nn m)) (hr : Room k X.A) (hgd : X.A.guards = some []) (hb : PB fd ps ks 0 pm) (tk : Takes X W) (hg : Gl X x) (hm : X.mg x = some (.ref f)) (hk : PySem.W.keepIn X.K (.ref f) = true)
    (hkw : RK X L W kws fk) (hps : ps.length = nn := by rfl) (hpm : pm.length = nn ∧ ∀ i ∈ pm, i < 0 + ks.length := by decide) (hdb : (x == ("__debug__" : Str)) = false := by decide) (hall : (backToKw pos (keywordEach kws X.env)).all (·.1.isSome) = true := by rfl) (hks : (backToKw pos (keywordEach kws X.env)).filterMap (·.1) = ks := by rfl)
    (hpl : ((backTo pos (starEach [] X.env)).any (·.1) || (backToKw pos (keywordEach kws X.env)).any (·.1.isNone)) = false := by rfl) :
    RX X L W (.Call (.Name x p) [] kws pos) (callM m pm 0 ks.length (M.ret []) fk) := by
  refine ⟨fun pins s σ H Q I h => ?_⟩
  have h' := call_reading (ks := ks) (fa := M.ret []) (t := tNil) (t' := tNil) hps hpm h
  obtain ⟨F0, en0, b0, o0, q0⟩ := h'
  have h2 := q0 [] F0 H .refl o0 .nil
  refine wpAny_Call_Name_kw (ld_glob I hg hm ?_ hdb)
  refine PySem.W.callWith_KW0 (h₀ := X.base) I.ok.mod.kin hk hall (thn (hkw.run pos pins s σ H _ I h2) fun ws s1 ⟨zs, H1, I1, rz, z1, z2, z3⟩ => ⟨I1.kIn, ?_⟩) hpl
  rw [hks]
  exact run_fnG (us := []) (vs := []) Fg hr hgd hb tk I1 .nil rz z1 z2 z3
/-- f(e, .., k = e, ..) -/
theorem rx_callK {fa fk : M (List D)} (Fg : FnG X.prog X.w X.K X.mg X.base k f fd ps (spM L.β L.γ L.exr nn m)) (hr : Room k X.A) (hgd : X.A.guards = some []) (hb : PB fd ps ks n pm) (tk : Takes X W) (hg : Gl X x) (hm : X.mg x = some (.ref f)) (hk : PySem.W.keepIn X.K (.ref f) = true)
    (ha : RA X L W (e :: es) fa) (hkw : RK X L W kws fk) (hps : ps.length = nn := by rfl) (hpm : pm.length = nn ∧ ∀ i ∈ pm, i < n + ks.length := by decide) (hdb : (x == ("__debug__" : Str)) = false := by decide) (hall : (backToKw pos (keywordEach kws X.env)).all (·.1.isSome) = true := by rfl) (hks : (backToKw pos (keywordEach kws X.env)).filterMap (·.1) = ks := by rfl)
    (he : starEach (e :: es) X.env = (false, eval e X.env) :: starEach es X.env := by rfl) (hpl : ((backTo pos (starEach (e :: es) X.env)).any (·.1) || (backToKw pos (keywordEach kws X.env)).any (·.1.isNone)) = false := by rfl) :
    RX X L W (.Call (.Name x p) (e :: es) kws pos) (callM m pm n ks.length fa fk) := by
  refine ⟨fun pins s σ H Q I h => ?_⟩
  have h' := call_reading (ks := ks) (t := tNil) (t' := tNil) hps hpm h
  refine wpAny_Call_Name_kw (ld_glob I hg hm ?_ hdb)
  refine PySem.W.callWith_KW (h₀ := X.base) I.ok.mod.kin hk hall (thn (ha.run pos pins s σ H _ I h') fun us s1 ⟨vs, H1, I1, r, q⟩ => thn (hkw.run pos pins s1 σ H1 _ I1 q) fun ws s2 ⟨zs, H2, I2, rz, z1, z2, z3⟩ => ⟨I2.kIn, ?_⟩) hpl he
  rw [hks]
  exact run_fnG Fg hr hgd hb tk I2 r rz z1 z2 z3
theorem takesF : Takes X WF := fun _ _ ⟨_, _, _, _, _, _, _, _, _, _, _, _, _, _, _, _, z⟩ => z.elim
end
end PL
namespace PL
open PySem PySem.Spec PyProof.Rows L2

section
variable {X : Cx} {L : Lo} {W : WX} {F F' : Addr → Prop} {H H' : Hp} {σ : St} {en : SE} {b : Bg}
variable {a c e : Expr} {pos : Pos} {st : Stmt}
/-! ### repr -/
def reprOk (d : D) : Bool := d.showable && (d.canLay0 && (decide (d.depth ≤ 64) && decide (d.shown.length ≤ sizeLine)))
def rRepr (K : PySem.W.Frag) : List V → Hp → VK → Prop := fun xs H Q => ∃ x d, xs = [x] ∧ Dp K H x d ∧ reprOk d = true ∧ Q (.str d.shown) H
theorem call_reprD (hu : X.A.units + 200 < cLine) (hg : X.A.guards = some []) : CallR X (.builtin "repr") (rRepr X.K) := by
  intro pins s σ H xs us Q I r h
  obtain ⟨x, d, rfl, hd, ok, q⟩ := h
  obtain ⟨u, rfl, ru⟩ := vals1 r
  unfold reprOk at ok
  simp only [Bool.and_eq_true, decide_eq_true_eq] at ok
  obtain ⟨k1, k2, k3, k4⟩ := ok
  obtain ⟨as, rd⟩ := Dp.reads I d x u hd ru
  have fin : ∀ (h' : Heap) t tk, (∀ b o, s.heap.get? b = some o → h'.get? b = some o) → EP X pins σ Q (.str d.shown t) { s with heap := h', toks := tk } := fun h' t tk hk => ⟨.str d.shown, H, I.kept hk, ⟨t, rfl⟩, q⟩
  have triv : ∀ b o, s.heap.get? b = some o → s.heap.get? b = some o := fun _ _ e => e
  cases hd with
  | non =>
    cases ru
    have f := fin s.heap s.toks (s.toks + 1) triv
    rw [show (PyData.none).shown = ("None" : Str) from by unfold PyData.shown; rfl] at f
    exact PySem.P.repr_of_none f
  | bl k =>
    cases ru
    have f := fin s.heap s.toks (s.toks + 1) triv
    rw [show (PyData.bool k).shown = (if k then ("True" : Str) else "False") from by unfold PyData.shown; rfl] at f
    exact PySem.P.repr_of_bool f
  | int i =>
    obtain ⟨t, rfl⟩ := ru
    have f := fin s.heap s.toks (s.toks + 1) triv
    rw [show (PyData.int i).shown = toString i from by unfold PyData.shown; rfl] at f
    exact PySem.P.repr_of_int (by simpa [PyData.showable] using k1) f
  | str y =>
    obtain ⟨t, rfl⟩ := ru
    have f := fin s.heap s.toks (s.toks + 1) triv
    have e : (PyData.str y).shown = reprText y := by unfold PyData.shown; rfl
    rw [e] at f k4
    exact PySem.P.repr_of_str f k4
  | lst h1 h2 =>
    cases ru
    exact repr_of_reads' rd k1 (PyData.noDict_hsm (PyData.hasDict_of_canLay _ k2)) hg (by omega) triv (fun h' t tk hk => fin h' t tk hk) k4
  | tup h1 h2 =>
    cases ru
    exact repr_of_reads' rd k1 (PyData.noDict_hsm (PyData.hasDict_of_canLay _ k2)) hg (by omega) triv (fun h' t tk hk => fin h' t tk hk) k4
def reprD (d : D) : Option (Bool × D) := if reprOk d then some (false, .str d.shown) else none
theorem Pk.dp {K : PySem.W.Frag} {v : V} {d : D} (h : Pk L F H σ en v d) (k : d.canLay0 = true) : Dp K H v d := by
  rcases h with h | ⟨i, p, rfl, _, _, t⟩
  · exact h.dp (L := L) k
  · cases d with
    | list ds =>
      obtain ⟨xs, hx, r⟩ := t
      exact .lst (.of hx) (Reps.dp (L := L) r (by simpa [PyData.canLay0] using k))
    | dict ds => simp [PyData.canLay0] at k
    | _ => exact t.elim
theorem reprD_ok : OneS L (rRepr X.K) reprD := by
  intro F H σ en b x dx rr Q eo rx e q
  obtain ⟨hc, rfl⟩ := iteSome e
  have hk := hc
  unfold reprOk at hk
  simp only [Bool.and_eq_true] at hk
  exact ⟨x, dx, rfl, rx.dp hk.2.1, hc, q _ F H (fun _ _ => rfl) eo .refl (.str _) .no⟩
theorem re_repr {p : Pos} {f : M D} (hu : X.A.units + 200 < cLine) (hgd : X.A.guards = some []) (ha : RP X L W a f) (hg : Gl X "repr") (hm : X.mg "repr" = none) (hst : starEach [a] X.env = (false, eval a X.env) :: starEach [] X.env := by rfl) (hpl : (backTo pos (starEach [] X.env)).any (·.1) = false := by rfl) :
    RE X L W (.Call (.Name "repr" p) [a] [] pos) (fz (unM reprD f)) := rx_fz (rx_b1 (call_reprD hu hgd) reprD_ok (by decide +kernel) ha hg hm (by decide) (by decide) hst hpl)

/-! ### several results, new ones among them -/
def RsOk (L : Lo) (F : Addr → Prop) (H : Hp) (σ : St) (en : SE) : List V → List (Bool × D) → Prop
  | [], [] => True
  | v :: vs, r :: rs => ResOk L F H σ en v r ∧ (r.1 = true → ∀ (j : Nat) r', rs[j]? = some r' → r'.1 = true → vs[j]? ≠ some v) ∧ RsOk L F H σ en vs rs
  | _, _ => False
theorem RsOk.len {L : Lo} : ∀ {vs : List V} {rs : List (Bool × D)}, RsOk L F H σ en vs rs → vs.length = rs.length
  | [], [], _ => rfl
  | _ :: _, _ :: _, h => congrArg Nat.succ (RsOk.len h.2.2)
  | [], _ :: _, h => h.elim
  | _ :: _, [], h => h.elim
def RsNew (H : Hp) (vs : List V) (rs : List (Bool × D)) : Prop := ∀ (j : Nat) r p, rs[j]? = some r → r.1 = true → vs[j]? = some (V.ref p) → H p = none
def tR (L : Lo) (W : WX) (f : M (List (Bool × D))) : TA := fun σ H Q => ∃ F en b, EO L F H σ en b ∧ match f en b with
  | .stuck => False
  | .ok rs en' b' => ∀ vs F' H', Stp L σ F H en F' H' en' → EO L F' H' σ en' b' → RsOk L F' H' σ en' vs rs → RsNew H vs rs → Q vs H'
  | .exc x en' b' => ∀ F' H' cls dd, Le F H F' H' → EO L F' H' σ en' b' → L.exr x cls dd H' → W cls dd σ H'
abbrev RR (X : Cx) (L : Lo) (W : WX) (es : List Expr) (f : M (List (Bool × D))) : Prop := PA X es (tR L W f)
/-- a result stands through a step -/
theorem ResOk.step {en' : SE} {v : V} {r : Bool × D} (o : EO L F H σ en b) (q : ResOk L F H σ en v r) (s : Stp L σ F H en F' H' en') : ResOk L F' H' σ en' v r := by
  obtain ⟨k, d⟩ := r
  cases k with
  | false => exact Rep.mono s.le q
  | true =>
    obtain ⟨p, rfl, w, n⟩ := q
    have no : ¬ Ow σ en p := fun ⟨i, d', h1, h2⟩ => n i d' h1 h2
    refine ⟨p, rfl, ⟨fun f => ?_, w.nb, w.nc, w.new, w.top.mono s.le (s.oth p w.there w.nb w.nc no)⟩, fun i d' h1 h2 => no (s.own p ⟨i, d', h1, h2⟩)⟩
    rcases s.new p f with z | z | z
    · exact w.nf z
    · exact no z
    · exact w.there z
theorem rr_nil : RR X L W [] (M.ret []) := paImp pa_nil fun σ H Q ⟨F, en, b, o, q⟩ => q [] F H .refl o trivial fun j r p h => by simp at h
def consR (f : M (Bool × D)) (g : M (List (Bool × D))) : M (List (Bool × D)) := f.bind fun x => g.bind fun xs => M.ret (x :: xs)
theorem rr_cons {es : List Expr} {f : M (Bool × D)} {g : M (List (Bool × D))} (h : RX X L W e f) (hr : RR X L W es g) (hs : starEach (e :: es) X.env = (false, eval e X.env) :: starEach es X.env := by rfl) : RR X L W (e :: es) (consR f g) :=
  paImp (pa_cons h hr hs) fun σ H Q ⟨F, en, b, o, q⟩ => ⟨F, en, b, o, by
    unfold consR M.bind M.ret at q
    cases hf : f en b with
    | stuck => rw [hf] at q; exact q
    | exc x en' b' => rw [hf] at q; exact q
    | ok r en' b' =>
      rw [hf] at q
      intro v F' H' l o' r' n'
      refine ⟨F', en', b', o', ?_⟩
      dsimp only at q
      cases hg : g en' b' with
      | stuck => rw [hg] at q; exact q
      | exc x en2 b2 => rw [hg] at q; exact fun F2 H2 cls dd l2 o2 x2 => q F2 H2 cls dd (l.le.trans l2) o2 x2
      | ok rs en2 b2 =>
        rw [hg] at q
        intro vs F2 H2 l2 o2 r2 n2
        refine q (v :: vs) F2 H2 (l.trans l2) o2 ⟨r'.step o' l2, fun z j r3 hj hz hv => ?_, r2⟩ fun j r3 p hj hz hv => ?_
        · obtain ⟨k, d⟩ := r
          cases z
          obtain ⟨p, rfl, w, _⟩ := r'
          exact w.there (n2 j r3 p hj hz hv)
        · cases j with
          | zero =>
            have e1 : r = r3 := Option.some.inj hj
            have e2 : v = .ref p := Option.some.inj hv
            subst e1
            exact n' hz p e2
          | succ j =>
            have z := n2 j r3 p hj hz hv
            by_cases h0 : H p = none
            · exact h0
            · exact absurd z (l.th p h0)⟩
def setsE (en : SE) : List Nat → List (Bool × D) → SE
  | i :: is, r :: rs => setsE (en.set i (some r)) is rs
  | _, _ => en
def setsV (σ : St) : List Nat → List V → St
  | i :: is, v :: vs => setsV (σ.set i (some v)) is vs
  | _, _ => σ
theorem ResOk.other {v w : V} {r q : Bool × D} (o : EO L F H σ en b) (hv : ResOk L F H σ en v r) (hw : ResOk L F H σ en w q) (ne : r.1 = true → q.1 = true → w ≠ v) {i : Nat} (hi : i < en.length) : ResOk L F H (σ.set i (some v)) (en.set i (some r)) w q := by
  obtain ⟨k, d⟩ := q
  cases k with
  | false => exact hw
  | true =>
    obtain ⟨p, rfl, wo, n⟩ := hw
    refine ⟨p, rfl, wo, fun j d' h1 h2 => ?_⟩
    by_cases hj : j = i
    · subst hj
      rw [List.getElem?_set_self hi] at h1
      rw [List.getElem?_set_self (by rw [← o.len]; exact hi)] at h2
      have e1 : r = (true, d') := Option.some.inj (Option.some.inj h1)
      have e2 : v = V.ref p := Option.some.inj (Option.some.inj h2)
      exact ne (by rw [e1]) rfl e2.symm
    · rw [List.getElem?_set_ne (Ne.symm hj)] at h1 h2
      exact n j d' h1 h2
theorem RsOk.other {v : V} {r : Bool × D} (o : EO L F H σ en b) (hv : ResOk L F H σ en v r) {i : Nat} (hi : i < en.length) : ∀ {vs : List V} {rs : List (Bool × D)}, RsOk L F H σ en vs rs → (r.1 = true → ∀ (j : Nat) r', rs[j]? = some r' → r'.1 = true → vs[j]? ≠ some v) → RsOk L F H (σ.set i (some v)) (en.set i (some r)) vs rs
  | [], [], _, _ => trivial
  | w :: ws, q :: qs, h, n => ⟨hv.other o h.1 (fun z1 z2 e => n z1 0 q rfl z2 (by rw [e]; rfl)) hi, h.2.1, RsOk.other o hv hi h.2.2 fun z j r' h1 h2 => n z (j + 1) r' h1 h2⟩
  | [], _ :: _, h, _ => h.elim
  | _ :: _, [], h, _ => h.elim
theorem EO.binds : ∀ {is : List Nat} {vs : List V} {rs : List (Bool × D)} {σ : St} {en : SE}, EO L F H σ en b → RsOk L F H σ en vs rs → (∀ i ∈ is, i < en.length) → is.length = rs.length → EO L F H (setsV σ is vs) (setsE en is rs) b
  | [], _, _, _, _, o, _, _, _ => o
  | _ :: _, [], [], _, _, _, _, _, e => by cases e
  | _ :: _, [], _ :: _, _, _, _, h, _, _ => h.elim
  | _ :: _, _ :: _, [], _, _, _, h, _, _ => h.elim
  | i :: is, v :: vs, r :: rs, σ, en, o, h, hi, e =>
    EO.binds (is := is) (vs := vs) (rs := rs) (o.bind h.1 (hi i (List.mem_cons_self ..))) (RsOk.other o h.1 (hi i (List.mem_cons_self ..)) h.2.2 h.2.1) (fun j hj => by rw [List.length_set]; exact hi j (List.mem_cons_of_mem _ hj)) (Nat.succ.inj e)
def parM (is : List Nat) (f : M (List (Bool × D))) : M Fl := f.bind fun rs => fun en b => if is.length = rs.length ∧ ∀ i ∈ is, i < en.length then .ok .nx (setsE en is rs) b else .stuck
theorem rs_parOf {is : List Nat} {f : M (List (Bool × D))} {t : TS} (h : PS X st t) (hi : ∀ (Dn : Ends) σ H, tR L W f σ H (fun vs H1 => vs.length = is.length → Dn.nx (setsV σ is vs) H1) → t Dn σ H) : RS X L W st (parM is f) := psImp h fun Dn σ H ⟨F, en, b, eo, q⟩ => by
  refine hi Dn σ H ⟨F, en, b, eo, ?_⟩
  unfold parM M.bind at q
  cases hf : f en b with
  | stuck => rw [hf] at q; exact q
  | exc x en' b' => rw [hf] at q; exact fun F2 H2 cls dd l o2 => q σ F2 H2 cls dd l o2
  | ok rs en' b' =>
    rw [hf] at q
    intro vs F2 H2 l o2 r _ hl
    dsimp only at q
    by_cases hc : is.length = rs.length ∧ ∀ i ∈ is, i < en'.length
    · rw [if_pos hc] at q
      exact q _ F2 H2 l.le (o2.binds r hc.2 hc.1)
    · rw [if_neg hc] at q
      exact q.elim
theorem len2 {vs : List V} (h : vs.length = 2) : ∃ v w, vs = [v, w] := match vs, h with | [v, w], _ => ⟨v, w, rfl⟩
theorem len3 {vs : List V} (h : vs.length = 3) : ∃ u v w, vs = [u, v, w] := match vs, h with | [u, v, w], _ => ⟨u, v, w, rfl⟩
theorem tR_len {f : M (List (Bool × D))} {n : Nat} {Q : List V → Hp → Prop} (hn : ∀ en b rs en' b', f en b = .ok rs en' b' → rs.length = n) (h : tR L W f σ H (fun vs H1 => vs.length = n → Q vs H1)) : tR L W f σ H (fun vs H1 => vs.length = n ∧ Q vs H1) := by
  obtain ⟨F, en, b, eo, q⟩ := h
  refine ⟨F, en, b, eo, ?_⟩
  cases hf : f en b with
  | stuck => rw [hf] at q; exact q
  | exc x en' b' => rw [hf] at q; exact q
  | ok rs en' b' =>
    rw [hf] at q
    intro vs F2 H2 l o2 r n2
    have e : vs.length = n := r.len.trans (hn _ _ _ _ _ hf)
    exact ⟨e, q vs F2 H2 l o2 r n2 e⟩
theorem cons_len {f : M (Bool × D)} {g : M (List (Bool × D))} {n : Nat} (hg : ∀ en b rs en' b', g en b = .ok rs en' b' → rs.length = n) : ∀ en b rs en' b', consR f g en b = .ok rs en' b' → rs.length = n + 1 := fun en b rs en' b' h => by
  unfold consR M.bind M.ret at h
  cases hf : f en b with
  | stuck => rw [hf] at h; cases h
  | exc x e1 b1 => rw [hf] at h; cases h
  | ok r e1 b1 =>
    rw [hf] at h
    dsimp only at h
    cases hk : g e1 b1 with
    | stuck => rw [hk] at h; cases h
    | exc x e2 b2 => rw [hk] at h; cases h
    | ok ss e2 b2 =>
      rw [hk] at h
      cases h
      rw [List.length_cons, hg _ _ _ _ _ hk]
theorem nil_len : ∀ en b rs en' b', (M.ret ([] : List (Bool × D))) en b = .ok rs en' b' → rs.length = 0 := fun _ _ _ _ _ h => by cases h; rfl
theorem rs_par2 {i j : Nat} {f : M (List (Bool × D))} (hn : ∀ en b rs en' b', f en b = .ok rs en' b' → rs.length = 2) (h : PS X st (tPar i j (tR L W f))) : RS X L W st (parM [i, j] f) := rs_parOf h fun Dn σ H q => by
  obtain ⟨F, en, b, eo, q⟩ := tR_len hn q
  refine ⟨F, en, b, eo, ?_⟩
  cases hf : f en b with
  | stuck => rw [hf] at q; exact q
  | exc x en' b' => rw [hf] at q; exact q
  | ok rs en' b' =>
    rw [hf] at q
    intro vs F2 H2 l o2 r n2
    obtain ⟨hl, q⟩ := q vs F2 H2 l o2 r n2
    obtain ⟨v, w, rfl⟩ := len2 hl
    exact ⟨v, w, rfl, q⟩
theorem rs_par3 {i j k : Nat} {f : M (List (Bool × D))} (hn : ∀ en b rs en' b', f en b = .ok rs en' b' → rs.length = 3) (h : PS X st (tPar3 i j k (tR L W f))) : RS X L W st (parM [i, j, k] f) := rs_parOf h fun Dn σ H q => by
  obtain ⟨F, en, b, eo, q⟩ := tR_len hn q
  refine ⟨F, en, b, eo, ?_⟩
  cases hf : f en b with
  | stuck => rw [hf] at q; exact q
  | exc x en' b' => rw [hf] at q; exact q
  | ok rs en' b' =>
    rw [hf] at q
    intro vs F2 H2 l o2 r n2
    obtain ⟨hl, q⟩ := q vs F2 H2 l o2 r n2
    obtain ⟨u, v, w, rfl⟩ := len3 hl
    exact ⟨u, v, w, rfl, q⟩
end
end PL
/-! list(zip(x, y)): the pairs, each a new tuple that the list holds -/
namespace PL
open PySem PySem.Spec L2
section
variable {prog : Program} {w : World} {A : Around} {E : Value → Shared → Prop} {s : Shared} {z TI TO T i1 i2 : Addr} {fp1 fp2 : List Addr} {n1 n2 i : Nat} {P1 P2 : Nat → Value → Prop} {St1 St2 : Nat → Heap → Prop}
theorem zh_item {f : Bool} {oT : Obj} {Q : Value → Shared → Prop} (S : ZipSep2 z TI TO i1 i2 fp1 fp2) (D1 : Draws prog w A i1 fp1 n1 P1 St1) (D2 : Draws prog w A i2 fp2 n2 P2 St2)
    (hz : IsZipHeld s.heap z TI TO T f) (hT : s.heap.get? T = some oT) (hTI : IsTupOf2 s.heap TI (.ref i1) (.ref i2)) (st1 : St1 i s.heap) (st2 : St2 i s.heap) (hlt1 : i < n1) (hlt2 : i < n2)
    (hQ : ∀ x y h' tk, P1 i x → P2 i y → IsZipHeld h' z TI TO T true → St1 (i + 1) h' → St2 (i + 1) h' → IsTupOf2 h' s.heap.objs.size x y → h'.objs.size = s.heap.objs.size + 1 →
      (∀ c o, c ≠ z → c ≠ i1 → c ≠ i2 → s.heap.get? c = some o → h'.get? c = some o) → Q (.ref s.heap.objs.size) { s with heap := h', toks := tk }) :
    wpAny (model prog w) A (Builtin.«zip.__next__» ⟨[.ref z], []⟩) (fun fin s' => ∃ v, fin = .done (.ret v) ∧ Q v s') E s := by
  obtain ⟨hp, g, d, tk0, os⟩ := s
  show wpAny _ _ (field (.ref z) 2 >>= _) _ _ _
  refine wpAny_bind (wpAny_field hz rfl (x := .bool false) rfl ?_)
  show wpAny _ _ (field (.ref z) 3 >>= _) _ _ _
  refine wpAny_bind (wpAny_field hz rfl (x := .ref TI) rfl (wpAny_bind (wpAny_seqItems hTI rfl ?_)))
  show wpAny _ _ (Builtin.SmallTypes.ownedTupleIsFree (.ref z) >>= _) _ _ _
  refine wpAny_bind (wpAny_tupleHeld_zip hz hT fun h₁ hz₁ hs₁ => ?_)
  replace hs₁ : Heap.SameBut z hp h₁ := hs₁
  simp only [Bool.false_eq_true, if_false]
  refine wpAny_bind ?_
  rw [← Array.forIn_toList]
  simp only [List.forIn_cons, List.forIn_nil]
  refine wpAny_bind (wpAny_bind (wpAny_holding ?_))
  show wpAny _ _ (Builtin.SmallTypes.nextOf (.ref i1) >>= _) _ _ ⟨h₁, g, d, tk0, os⟩
  refine wpAny_bind (D1.item i _ _ _ hlt1 (D1.over st1 hs₁ S.zf1) fun x h₂ tk1 hx sn1 hs₂ => wpAny_pure (wpAny_pure ?_))
  replace hs₂ : Heap.SameBut i1 h₁ h₂ := hs₂
  refine wpAny_bind (wpAny_bind (wpAny_holding ?_))
  show wpAny _ _ (Builtin.SmallTypes.nextOf (.ref i2) >>= _) _ _ ⟨h₂, g, d, tk1, os⟩
  refine wpAny_bind (D2.item i _ _ _ hlt2 (D2.over (D2.over st2 hs₁ S.zf2) hs₂ S.sep1_2) fun y h₃ tk2 hy sn2 hs₃ => wpAny_pure (wpAny_pure (wpAny_pure ?_)))
  replace hs₃ : Heap.SameBut i2 h₂ h₃ := hs₃
  show wpAny _ _ (newTuple [x, y] >>= _) _ _ _
  refine wpAny_bind (wpAny_newTuple (wpAny_pure ⟨_, rfl, ?_⟩))
  have hsz : h₃.objs.size = hp.objs.size := by rw [hs₃.1, hs₂.1, hs₁.1]
  have hz₃ : IsZipHeld h₃ z TI TO T true := hs₃.extBut _ _ S.zi2 (hs₂.extBut _ _ S.zi1 hz₁)
  have hk : ∀ c o, c ≠ z → c ≠ i1 → c ≠ i2 → hp.get? c = some o → h₃.get? c = some o := fun c o c1 c2 c3 e => hs₃.extBut _ _ c3 (hs₂.extBut _ _ c2 (hs₁.extBut _ _ c1 e))
  have j1 : St1 (i + 1) h₃ := D1.over sn1 hs₃ S.sep2_1
  show Q (.ref h₃.objs.size) ⟨h₃.push { cls := .type "tuple", data := .seq #[x, y] }, g, d, tk2, os⟩
  have hp1 : IsTupOf2 (h₃.push { cls := .type "tuple", data := .seq #[x, y] }) h₃.objs.size x y := Heap.get?_push_size _ rfl
  have hz4 : (h₃.push { cls := .type "tuple", data := .seq #[x, y] }).objs.size = h₃.objs.size + 1 := Heap.size_push ..
  rw [hsz] at hp1 hz4 ⊢
  exact hQ x y _ tk2 hx hy (Heap.get?_push_of_some _ hz₃) (D1.frame _ _ _ j1 fun b _ o e => Heap.get?_push_of_some _ e) (D2.frame _ _ _ sn2 fun b _ o e => Heap.get?_push_of_some _ e) hp1 hz4 fun c o c1 c2 c3 e => Heap.get?_push_of_some _ (hk c o c1 c2 c3 e)
theorem zh_end {f : Bool} {oT : Obj} {Q : Fin → Shared → Prop} (S : ZipSep2 z TI TO i1 i2 fp1 fp2) (D1 : Draws prog w A i1 fp1 n1 P1 St1) (D2 : Draws prog w A i2 fp2 n2 P2 St2)
    (hz : IsZipHeld s.heap z TI TO T f) (hT : s.heap.get? T = some oT) (hTI : IsTupOf2 s.heap TI (.ref i1) (.ref i2)) (st1 : St1 i s.heap) (st2 : St2 i s.heap) (hle1 : i ≤ n1) (hle2 : i ≤ n2) (hend : i = n1 ∨ i = n2)
    (hE : ∀ h' tk e, (∀ c o, c ≠ z → c ≠ i1 → c ≠ i2 → s.heap.get? c = some o → h'.get? c = some o) → (∃ o, h'.get? e = some o ∧ o.cls = .type "StopIteration") → E (.ref e) { s with heap := h', toks := tk }) :
    wpAny (model prog w) A (Builtin.«zip.__next__» ⟨[.ref z], []⟩) Q E s := by
  obtain ⟨hp, g, d, tk0, os⟩ := s
  show wpAny _ _ (field (.ref z) 2 >>= _) _ _ _
  refine wpAny_bind (wpAny_field hz rfl (x := .bool false) rfl ?_)
  show wpAny _ _ (field (.ref z) 3 >>= _) _ _ _
  refine wpAny_bind (wpAny_field hz rfl (x := .ref TI) rfl (wpAny_bind (wpAny_seqItems hTI rfl ?_)))
  show wpAny _ _ (Builtin.SmallTypes.ownedTupleIsFree (.ref z) >>= _) _ _ _
  refine wpAny_bind (wpAny_tupleHeld_zip hz hT fun h₁ hz₁ hs₁ => ?_)
  replace hs₁ : Heap.SameBut z hp h₁ := hs₁
  simp only [Bool.false_eq_true, if_false]
  refine wpAny_bind ?_
  rw [← Array.forIn_toList]
  simp only [List.forIn_cons, List.forIn_nil]
  refine wpAny_bind (wpAny_bind (wpAny_holding ?_))
  show wpAny _ _ (Builtin.SmallTypes.nextOf (.ref i1) >>= _) _ _ ⟨h₁, g, d, tk0, os⟩
  by_cases hlt1 : i < n1
  · refine wpAny_bind (D1.item i _ _ _ hlt1 (D1.over st1 hs₁ S.zf1) fun x h₂ tk1 hx sn1 hs₂ => wpAny_pure (wpAny_pure ?_))
    replace hs₂ : Heap.SameBut i1 h₁ h₂ := hs₂
    have hi2 : i = n2 := by omega
    refine wpAny_bind (wpAny_bind (wpAny_holding ?_))
    show wpAny _ _ (Builtin.SmallTypes.nextOf (.ref i2) >>= _) _ _ ⟨h₂, g, d, tk1, os⟩
    refine wpAny_bind (D2.done ⟨h₂, g, d, tk1, os⟩ _ _ (by rw [← hi2]; exact D2.over (D2.over st2 hs₁ S.zf2) hs₂ S.sep1_2) fun q e hq he => ?_)
    exact hE q tk1 e (fun c o c1 c2 c3 x => hq _ _ c3 (hs₂.extBut _ _ c2 (hs₁.extBut _ _ c1 x))) he
  · have hi1 : i = n1 := by omega
    refine wpAny_bind (D1.done ⟨h₁, g, d, tk0, os⟩ _ _ (by rw [← hi1]; exact D1.over st1 hs₁ S.zf1) fun q e hq he => ?_)
    exact hE q tk0 e (fun c o c1 c2 c3 x => hq _ _ c2 (hs₁.extBut _ _ c1 x)) he
/-- the zip's state behind i turns: no tuple is out, or T, which is none of its own cells and not the list S -/
def ZAt (z TI TO i1 i2 S : Addr) (St1 St2 : Nat → Heap → Prop) (i : Nat) (h : Heap) : Prop :=
  ((IsZip h z TI TO .none ∧ ∃ a1 a2, IsTupOf2 h TO a1 a2) ∨ ∃ T f oT, IsZipHeld h z TI TO T f ∧ h.get? T = some oT ∧ T ≠ z ∧ T ≠ i1 ∧ T ≠ i2 ∧ T ≠ S) ∧ IsTupOf2 h TI (.ref i1) (.ref i2) ∧ St1 i h ∧ St2 i h
variable {S : Addr}
theorem zat_frame (Z : ZipSep2 z TI TO i1 i2 fp1 fp2) (D1 : Draws prog w A i1 fp1 n1 P1 St1) (D2 : Draws prog w A i2 fp2 n2 P2 St2) {h h' : Heap} (st : ZAt z TI TO i1 i2 S St1 St2 i h) (k : ∀ b o, b ≠ S → h.get? b = some o → h'.get? b = some o)
    (xz : S ≠ z) (xI : S ≠ TI) (xO : S ≠ TO) (x1 : S ∉ fp1) (x2 : S ∉ fp2) : ZAt z TI TO i1 i2 S St1 St2 i h' := by
  obtain ⟨q, hTI, s1, s2⟩ := st
  refine ⟨?_, k _ _ xI.symm hTI, D1.frame _ _ _ s1 fun b hb o e => k b o (fun z => x1 (z ▸ hb)) e, D2.frame _ _ _ s2 fun b hb o e => k b o (fun z => x2 (z ▸ hb)) e⟩
  rcases q with ⟨hz, a1, a2, hTO⟩ | ⟨T, f, oT, hz, hT, t1, t2, t3, t4⟩
  · exact .inl ⟨k _ _ xz.symm hz, a1, a2, k _ _ xO.symm hTO⟩
  · exact .inr ⟨T, f, oT, k _ _ xz.symm hz, k _ _ t4 hT, t1, t2, t3, t4⟩
theorem zat_next {Q : Option Value → Shared → Prop} (Z : ZipSep2 z TI TO i1 i2 fp1 fp2) (D1 : Draws prog w A.in1 i1 fp1 n1 P1 St1) (D2 : Draws prog w A.in1 i2 fp2 n2 P2 St2) (st : ZAt z TI TO i1 i2 S St1 St2 i s.heap) (hS : S < s.heap.objs.size) (hlt1 : i < n1) (hlt2 : i < n2)
    (hQ : ∀ x y h' tk, P1 i x → P2 i y → ZAt z TI TO i1 i2 S St1 St2 (i + 1) h' → IsTupOf2 h' s.heap.objs.size x y → h'.objs.size = s.heap.objs.size + 1 →
      (∀ c o, c ≠ z → c ≠ TO → c ≠ i1 → c ≠ i2 → s.heap.get? c = some o → h'.get? c = some o) → Q (some (.ref s.heap.objs.size)) { s with heap := h', toks := tk }) : wpAny (model prog w) A (pyNext (.ref z)) Q E s := by
  obtain ⟨q, hTI, s1, s2⟩ := st
  have lt : ∀ {c o}, s.heap.get? c = some o → s.heap.objs.size ≠ c := fun e => Nat.ne_of_gt (Heap.lt_size e)
  have l1 : s.heap.objs.size ≠ i1 := by obtain ⟨_, e⟩ := D1.live _ _ s1; exact lt e
  have l2 : s.heap.objs.size ≠ i2 := by obtain ⟨_, e⟩ := D2.live _ _ s2; exact lt e
  rcases q with ⟨hz, a1, a2, hTO⟩ | ⟨T, f, oT, hz, hT, t1, t2, t3, t4⟩
  · refine wpAny_pyNext_zipD2_item Z D1 D2 hz hTI hTO s1 s2 hlt1 hlt2 fun x1 x2 h' tk y1 y2 b1 b2 d1 d2 b5 b6 hk => ?_
    exact hQ x1 x2 h' tk y1 y2 ⟨.inr ⟨s.heap.objs.size, false, _, b1, b5, lt hz, l1, l2, Nat.ne_of_gt hS⟩, hk _ _ Z.TIz Z.TITO Z.TIi1 Z.TIi2 hTI, d1, d2⟩ b5 b6 hk
  · have hTy : s.TypeIs (.ref z) "zip" := ⟨_, hz, rfl⟩
    unfold pyNext
    exact wpAny_bind (wpAny_attempt (wpAny_callSpecial?_slot (name := Str.ofString "__next__") hTy F.slot_zip_next (wpAny_call_entry F.slot_zip_next hTy F.entry_zip_next
      (zh_item Z D1 D2 hz hT hTI s1 s2 hlt1 hlt2 fun x y h' tk hx hy c1 c2 c3 c4 c5 hk => wpAny_pure (hQ x y h' tk hx hy ⟨.inr ⟨T, true, oT, c1, hk _ _ t1 t2 t3 hT, t1, t2, t3, t4⟩, hk _ _ Z.TIz Z.TIi1 Z.TIi2 hTI, c2, c3⟩ c4 c5 fun c o q1 _ q3 q4 e => hk c o q1 q3 q4 e)) (F.args_zip_next_1 _))))
theorem zat_done {Q : Option Value → Shared → Prop} (Z : ZipSep2 z TI TO i1 i2 fp1 fp2) (D1 : Draws prog w A.in1 i1 fp1 n1 P1 St1) (D2 : Draws prog w A.in1 i2 fp2 n2 P2 St2) (st : ZAt z TI TO i1 i2 S St1 St2 i s.heap) (hle1 : i ≤ n1) (hle2 : i ≤ n2) (hend : i = n1 ∨ i = n2)
    (hQ : ∀ h' tk, (∀ c o, c ≠ z → c ≠ TO → c ≠ i1 → c ≠ i2 → s.heap.get? c = some o → h'.get? c = some o) → Q none { s with heap := h', toks := tk }) : wpAny (model prog w) A (pyNext (.ref z)) Q E s := by
  obtain ⟨q, hTI, s1, s2⟩ := st
  rcases q with ⟨hz, a1, a2, hTO⟩ | ⟨T, f, oT, hz, hT, t1, t2, t3, t4⟩
  · exact wpAny_pyNext_zipD2_end Z D1 D2 hz hTI hTO s1 s2 hle1 hle2 hend hQ
  · have hTy : s.TypeIs (.ref z) "zip" := ⟨_, hz, rfl⟩
    unfold pyNext
    refine wpAny_bind (wpAny_attempt (wpAny_callSpecial?_slot (name := Str.ofString "__next__") hTy F.slot_zip_next (wpAny_call_entry F.slot_zip_next hTy F.entry_zip_next
      (zh_end Z D1 D2 hz hT hTI s1 s2 hle1 hle2 hend fun h' tk e hk he => ?_) (F.args_zip_next_1 _))))
    obtain ⟨o, ho, hc⟩ := he
    refine wpAny_bind (wpAny_isInstance (T := "StopIteration") (b := true) ⟨o, ho, hc⟩ isSubtype_stop ?_)
    exact wpAny_pure (hQ h' tk fun c o q1 _ q3 q4 e => hk c o q1 q3 q4 e)
/-- what the list holds of the pairs -/
def PairsIn (N0 : Nat) (P1 P2 : Nat → Value → Prop) (h : Heap) (i : Nat) (acc : Array Value) : Prop :=
  acc.size = i ∧ ∀ (j : Nat) v, acc[j]? = some v → ∃ T x y, v = Value.ref T ∧ N0 ≤ T ∧ P1 j x ∧ P2 j y ∧ IsTupOf2 h T x y
theorem codeAny_ext_zip {R : Result → Shared → Prop} (Z : ZipSep2 z TI TO i1 i2 fp1 fp2) (D1 : Draws prog w A.in1.in1 i1 fp1 n1 P1 St1) (D2 : Draws prog w A.in1.in1 i2 fp2 n2 P2 St2) (hn : min n1 n2 ≤ sizeLine) (xz : S ≠ z) (xI : S ≠ TI) (xO : S ≠ TO) (x1 : S ∉ fp1) (x2 : S ∉ fp2) (res : Value) (h0 : Heap) (N0 : Nat) :
    ∀ (k i : Nat) (s : Shared) (acc : Array Value) (c : Nat), min n1 n2 - i = k → i ≤ min n1 n2 → ZAt z TI TO i1 i2 S St1 St2 i s.heap → s.heap.get? S = some { cls := .type "list", dict := none, data := .seq acc c, slots := #[] } → PairsIn N0 P1 P2 s.heap i acc →
    (∀ (j : Nat) v, acc[j]? = some v → ∀ T, v = Value.ref T → T ≠ z ∧ T ≠ TO ∧ T ≠ i1 ∧ T ≠ i2 ∧ T ≠ S) → (∀ b o, b ≠ S → b ≠ z → b ≠ TO → b ≠ i1 → b ≠ i2 → h0.get? b = some o → s.heap.get? b = some o) → TO < s.heap.objs.size → N0 ≤ s.heap.objs.size →
    (∀ h' tk acc' c', (∀ b o, b ≠ S → b ≠ z → b ≠ TO → b ≠ i1 → b ≠ i2 → h0.get? b = some o → h'.get? b = some o) → h'.get? S = some { cls := .type "list", dict := none, data := .seq acc' c', slots := #[] } → PairsIn N0 P1 P2 h' (min n1 n2) acc' → R (.ok (.ret res)) { s with heap := h', toks := tk }) →
    codeAny (model prog w) A (.builtin "list.extend.loop" ⟨[.ref S, .ref z, res], []⟩) R s := by
  have Si1 : S ≠ i1 := fun e => x1 (e ▸ Z.mem1)
  have Si2 : S ≠ i2 := fun e => x2 (e ▸ Z.mem2)
  intro k
  induction k with
  | zero =>
    intro i s acc c hk hi st hS hp hd hold hTO hN0 hR
    refine codeAny_builtin F.entry_extend_loop ?_
    rw [Around.under_plainId F.plain_extend_loop _]
    show wpAny _ A.in1 (pyNext (.ref z) >>= _) _ _ s
    have hin : i = min n1 n2 := by omega
    refine wpAny_bind (zat_done Z D1 D2 st (by omega) (by omega) (by omega) fun h' tk hkk => wpAny_pure ?_)
    refine hR h' tk acc c (fun b o b1 b2 b3 b4 b5 e => hkk b o b2 b3 b4 b5 (hold b o b1 b2 b3 b4 b5 e)) (hkk S _ xz xO Si1 Si2 hS) ⟨hp.1.trans hin, fun j v hv => ?_⟩
    obtain ⟨T, x, y, rfl, pn, px, py, ht⟩ := hp.2 j v hv
    obtain ⟨t1, t2, t3, t4, _⟩ := hd j _ hv T rfl
    exact ⟨T, x, y, rfl, pn, px, py, hkk T _ t1 t2 t3 t4 ht⟩
  | succ k ih =>
    intro i s acc c hk hi st hS hp hd hold hTO hN0 hR
    refine codeAny_builtin F.entry_extend_loop ?_
    rw [Around.under_plainId F.plain_extend_loop _]
    show wpAny _ A.in1 (pyNext (.ref z) >>= _) _ _ s
    refine wpAny_bind (zat_next Z D1 D2 st (Heap.lt_size hS) (by omega) (by omega) fun x y h' tk px py st' ht hsz hkk => ?_)
    have hS' := hkk S _ xz xO Si1 Si2 hS
    show wpAny _ A.in1 (updateSeq S (·.push (.ref s.heap.objs.size)) >>= _) _ _ _
    refine wpAny_bind ?_
    have oth : ∀ b o, b ≠ S → h'.get? b = some o → (h'.update S (Obj.mapSeq (·.push (.ref s.heap.objs.size)))).get? b = some o := fun b o hb e => (Heap.get?_update_other _ _ (Ne.symm hb)).trans e
    have nS : s.heap.objs.size ≠ S := Nat.ne_of_gt (Heap.lt_size hS)
    have nz : s.heap.objs.size ≠ z := by
      rcases st.1 with ⟨q, _⟩ | ⟨_, _, _, q, _⟩
      · exact Nat.ne_of_gt (Heap.lt_size q)
      · exact Nat.ne_of_gt (Heap.lt_size q)
    have nO : s.heap.objs.size ≠ TO := Nat.ne_of_gt hTO
    have m1 : s.heap.objs.size ≠ i1 := by obtain ⟨_, e⟩ := D1.live _ _ st.2.2.1; exact Nat.ne_of_gt (Heap.lt_size e)
    have m2 : s.heap.objs.size ≠ i2 := by obtain ⟨_, e⟩ := D2.live _ _ st.2.2.2; exact Nat.ne_of_gt (Heap.lt_size e)
    refine wpAny_updateSeq (s := { s with heap := h', toks := tk }) hS' rfl (wpAny_pure ⟨plainId_quiet F.plain_extend_loop _, ih (i + 1) _ (acc.push (.ref s.heap.objs.size)) _ (by omega) (by omega) (zat_frame Z D1 D2 st' oth xz xI xO x1 x2) (Heap.get?_update_self _ hS' rfl) ⟨by rw [Array.size_push, hp.1], fun j v hv => ?_⟩ (fun j v hv T e => ?_)
      (fun b o b1 b2 b3 b4 b5 e => oth b o b1 (hkk b o b2 b3 b4 b5 (hold b o b1 b2 b3 b4 b5 e))) ?_ ?_ fun h'' tk' acc' c' q1 q2 q3 => hR h'' tk' acc' c' q1 q2 q3⟩) (by rw [hp.1]; omega) (by show (acc.push _).size ≤ sizeLine + 1; rw [Array.size_push, hp.1]; omega)
    · rw [Array.getElem?_push] at hv
      split at hv
      · rename_i hj
        cases hv
        have hj' : j = i := hj.trans hp.1
        subst hj'
        exact ⟨_, x, y, rfl, hN0, px, py, oth _ _ nS ht⟩
      · obtain ⟨T, x', y', rfl, pn', px', py', ht'⟩ := hp.2 j v hv
        obtain ⟨t1, t2, t3, t4, t5⟩ := hd j _ hv T rfl
        exact ⟨T, x', y', rfl, pn', px', py', oth _ _ t5 (hkk T _ t1 t2 t3 t4 ht')⟩
    · rw [Array.getElem?_push] at hv
      split at hv
      · cases hv
        cases e
        exact ⟨nz, nO, m1, m2, nS⟩
      · exact hd j v hv T e
    · show TO < (h'.update S _).objs.size
      rw [Heap.size_update, hsz]
      exact Nat.lt_succ_of_lt hTO
    · show N0 ≤ (h'.update S _).objs.size
      rw [Heap.size_update, hsz]
      exact Nat.le_succ_of_le hN0
theorem zip_no_len : typeLookup (.type "zip") "__len__" = pure none := am_miss_of_fast (by decide +kernel)
theorem zip_no_hint : typeLookup (.type "zip") "__length_hint__" = pure none := am_miss_of_fast (by decide +kernel)

theorem call_list_zip {N0 : Nat} (hN0 : N0 ≤ s.heap.objs.size) {Q : Value → Shared → Prop} (Z : ZipSep2 z TI TO i1 i2 fp1 fp2) (D1 : Draws prog w A.in1.in1.in1 i1 fp1 n1 P1 St1) (D2 : Draws prog w A.in1.in1.in1 i2 fp2 n2 P2 St2) (hn : min n1 n2 ≤ sizeLine)
    (hz : IsZip s.heap z TI TO .none) (hTI : IsTupOf2 s.heap TI (.ref i1) (.ref i2)) (hTO : ∃ a1 a2, IsTupOf2 s.heap TO a1 a2) (s1 : St1 0 s.heap) (s2 : St2 0 s.heap) (f1 : ∀ b ∈ fp1, b < s.heap.objs.size) (f2 : ∀ b ∈ fp2, b < s.heap.objs.size)
    (hQ : ∀ h' tk acc' c', (∀ b o, b ≠ z → b ≠ TO → b ≠ i1 → b ≠ i2 → s.heap.get? b = some o → h'.get? b = some o) → h'.get? s.heap.objs.size = some { cls := .type "list", dict := none, data := .seq acc' c', slots := #[] } → PairsIn N0 P1 P2 h' (min n1 n2) acc' → Q (.ref s.heap.objs.size) { s with heap := h', toks := tk }) :
    wpAny (model prog w) A (call (.type "list") [.ref z]) Q E s := by
  obtain ⟨a1, a2, hTO⟩ := hTO
  have ltz : ∀ {c o}, s.heap.get? c = some o → s.heap.objs.size ≠ c := fun e => Nat.ne_of_gt (Heap.lt_size e)
  have x1 : s.heap.objs.size ∉ fp1 := fun hm => Nat.lt_irrefl _ (f1 _ hm)
  have x2 : s.heap.objs.size ∉ fp2 := fun hm => Nat.lt_irrefl _ (f2 _ hm)
  refine callType_codes (Q₁ := fun obj s₁ => obj = .ref s.heap.objs.size ∧ s₁ = { s with heap := s.heap.push { cls := .type "list", data := .seq #[] } }) F.called_list (F.typeCall_list_1 _) F.entry_list_init
    (code_list_new _ ⟨rfl, rfl⟩) fun obj s₁ h₁ => ?_
  obtain ⟨rfl, rfl⟩ := h₁
  have hS : (s.heap.push { cls := .type "list", data := .seq #[] }).get? s.heap.objs.size = some { cls := .type "list", data := .seq #[] } := Heap.get?_push_size _ rfl
  refine ⟨⟨_, hS, rfl⟩, F.args_list_init_2 _ _, ?_⟩
  show wpAny _ _ (do let old ← Builtin.List.listItems (.ref s.heap.objs.size); Builtin.List.listUpdate (.ref s.heap.objs.size) (fun _ => #[]); letGo old.toList.reverse; Builtin.List.listExtendWith (.ref s.heap.objs.size) (.ref z) .none) _ _ _
  refine wpAny_bind ?_
  unfold Builtin.List.listItems
  refine wpAny_bind (wpAny_seqItems hS rfl (wpAny_pure ?_))
  show wpAny _ _ (updateSeq s.heap.objs.size (fun _ => #[]) >>= fun _ => letGo (#[] : Array Value).toList.reverse >>= fun _ => Builtin.List.listExtendWith (.ref s.heap.objs.size) (.ref z) .none) _ _ _
  refine wpAny_bind (wpAny_updateSeq hS rfl ?_)
  refine wpAny_bind (wpAny_letGo ?_)
  have k2 : ∀ b o, b ≠ s.heap.objs.size → s.heap.get? b = some o → ((s.heap.push { cls := .type "list", data := .seq #[] }).update s.heap.objs.size (Obj.mapSeq (fun _ => (#[] : Array Value)))).get? b = some o := fun b o hb e => (Heap.get?_update_other _ _ (Ne.symm hb)).trans (Heap.get?_push_of_some _ e)
  have hS₂ := Heap.get?_update_self (Obj.mapSeq (fun _ => (#[] : Array Value))) hS rfl
  generalize hh2 : (s.heap.push { cls := .type "list", data := .seq #[] }).update s.heap.objs.size (Obj.mapSeq (fun _ => (#[] : Array Value))) = g2 at k2 hS₂ ⊢
  have sz2 : g2.objs.size = s.heap.objs.size + 1 := by rw [← hh2, Heap.size_update, Heap.size_push]
  have hz₂ : IsZip g2 z TI TO .none := k2 _ _ (ltz hz).symm hz
  unfold Builtin.List.listExtendWith
  refine wpAny_bind (wpAny_typeOf (T := "zip") ⟨_, hz₂, rfl⟩ ?_)
  have e1 : Builtin.List.listSameRef (.ref s.heap.objs.size) (.ref z) = false := by simp [Builtin.List.listSameRef, ltz hz]
  have e2 : (Value.type "zip" == Value.type "list") = false := by decide
  have e3 : (Value.type "zip" == Value.type "tuple") = false := by decide
  simp only [e1, e2, e3, Bool.or_false, Bool.false_eq_true, if_false]
  refine wpAny_bind (wpAny_pyIter_zip hz₂ ?_)
  refine wpAny_bind (wpAny_holding ?_)
  unfold Builtin.List.listLengthHint
  refine wpAny_bind (wpAny_specialOf (T := "zip") ⟨_, hz₂, rfl⟩ zip_no_len ?_)
  show wpAny _ _ (specialOf (Value.ref z) (Str.ofString "__length_hint__") >>= _) _ _ _
  refine wpAny_bind (wpAny_specialOf (T := "zip") ⟨_, hz₂, rfl⟩ zip_no_hint ?_)
  refine wpAny_pure ?_
  show wpAny _ _ (rule "list.extend.makes-room" >>= fun _ => Builtin.List.listTouch (.ref s.heap.objs.size) >>= fun _ =>
    again (.builtin "list.extend.loop" ⟨[.ref s.heap.objs.size, .ref z, .none], []⟩)) _ _ _
  refine wpAny_bind (wpAny_rule (wpAny_bind ?_))
  show wpAny _ _ (updateSeq s.heap.objs.size (·.push .none) >>= fun _ => updateSeq s.heap.objs.size (·.pop)) _ _ _
  refine wpAny_bind (wpAny_updateSeq hS₂ rfl ?_)
  have hS₃ := Heap.get?_update_self (Obj.mapSeq (·.push Value.none)) hS₂ rfl
  refine wpAny_updateSeq (hz := by seq_fits) hS₃ rfl ?_
  have hS₄ := Heap.get?_update_self (Obj.mapSeq (·.pop)) hS₃ rfl
  have k4 : ∀ b o, b ≠ s.heap.objs.size → s.heap.get? b = some o → ((g2.update s.heap.objs.size (Obj.mapSeq (·.push Value.none))).update s.heap.objs.size (Obj.mapSeq (·.pop))).get? b = some o :=
    fun b o hb e => (Heap.get?_update_other _ _ (Ne.symm hb)).trans ((Heap.get?_update_other _ _ (Ne.symm hb)).trans (k2 b o hb e))
  generalize hh4 : (g2.update s.heap.objs.size (Obj.mapSeq (·.push Value.none))).update s.heap.objs.size (Obj.mapSeq (·.pop)) = g4 at k4 hS₄ ⊢
  have sz4 : g4.objs.size = s.heap.objs.size + 1 := by rw [← hh4, Heap.size_update, Heap.size_update, sz2]
  have nI1 : i1 ≠ s.heap.objs.size := fun e => by obtain ⟨_, q⟩ := D1.live _ _ s1; exact ltz q e.symm
  have nI2 : i2 ≠ s.heap.objs.size := fun e => by obtain ⟨_, q⟩ := D2.live _ _ s2; exact ltz q e.symm
  refine wpAny_pure ⟨plainId_quiet F.plain_extend_loop _, codeAny_ext_zip Z D1 D2 hn (ltz hz) (ltz hTI) (ltz hTO) x1 x2 .none s.heap N0 _ 0 { s with heap := g4 } #[] _ rfl (Nat.zero_le _)
    ⟨.inl ⟨k4 _ _ (ltz hz).symm hz, a1, a2, k4 _ _ (ltz hTO).symm hTO⟩, k4 _ _ (ltz hTI).symm hTI, D1.frame _ _ _ s1 fun b hb o e => k4 b o (fun q => x1 (q ▸ hb)) e, D2.frame _ _ _ s2 fun b hb o e => k4 b o (fun q => x2 (q ▸ hb)) e⟩
    hS₄ ⟨rfl, fun j v h => by simp at h⟩ (fun j v h => by simp at h) (fun b o b1 _ _ _ _ e => k4 b o b1 e) (by show TO < g4.objs.size; rw [sz4]; exact Nat.lt_succ_of_lt (Heap.lt_size hTO)) (by show N0 ≤ g4.objs.size; rw [sz4]; exact Nat.le_succ_of_le hN0) fun h' tk acc' c' q1 q2 q3 => ?_⟩
  exact ⟨rfl, hQ h' tk acc' c' (fun b o b2 b3 b4 b5 e => q1 b o (ltz e).symm b2 b3 b4 b5 e) q2 q3⟩
end
section
open PyProof.Rows
/-- many new objects are laid and tracked -/
theorem inv_grown {X : Cx} {pins : List (Addr × Obj)} {σ : L2.St} {H H' : Hp} {s : Shared} {h' : Heap} {t' : Nat} (I : Inv X pins σ H s) (k : ∀ b u, s.heap.get? b = some u → h'.get? b = some u) (hh : ∀ b, b < s.heap.objs.size → H' b = H b)
    (new : ∀ b u, s.heap.objs.size ≤ b → H' b = some u → ObjOk X.prog X.w H' h' b u) : Inv X pins σ H' { s with heap := h', toks := t' } := by
  have lt : ∀ {b u}, H b = some u → b < s.heap.objs.size := fun e => I.hok.lt e
  refine I.un ⟨fun b o q _ _ _ => k b o q, fun b o q _ _ _ => ⟨o.slots, k b o q⟩, fun b o q n _ => (hh b (Heap.lt_size q)).trans n, fun b o q _ => ⟨o, k b o q⟩, fun b xs q => (hh b (lt q)).trans q, fun b o u q => (hh b (lt q)).trans q, fun b ps q => ⟨#[], by rw [hh b (lt q), q]; simp⟩⟩ fun b u q => ?_
  by_cases hb : b < s.heap.objs.size
  · rw [hh b hb] at q
    exact (I.hok b u q).stay (fun c v _ r => k c v r) (fun c r => (hh c (lt r)).trans r) fun c xs r => (hh c (lt r)).trans r
  · exact new b u (Nat.le_of_not_lt hb) q
/-- a list or a tuple that is walked by zip -/
structure Itb (v : Value) (items : Array Value) (h : Heap) where
  o : Obj
  Hh : Heap → Prop
  l : Addr
  St : Addr → Nat → Heap → Prop
  B : Begins v o Hh
  hh : Hh h
  lt : l < h.objs.size
  D : ∀ (prog : Program) (w : World) (A : Around) (it : Addr), A.handled = none → l ≠ it → Draws prog w A it [it, l] items.size (fun i u => items[i]? = some u) (St it)
  s0 : ∀ it h', h'.get? it = some o → (∀ b u, h.get? b = some u → h'.get? b = some u) → St it 0 h'
theorem itb_of {X : Cx} {L : Lo} {pins : List (Addr × Obj)} {σ : L2.St} {F : Addr → Prop} {H : Hp} {s : Shared} {x : V} {v : Value} {d : D} {ds : List D} (I : Inv X pins σ H s) (r : RelV x v) (rx : Rep L.β F H x d) (e : d = .list ds ∨ d = .tuple ds) :
    ∃ its : List Value, ∃ xs : List V, Vals xs its ∧ Reps L.β F H xs ds ∧ its.length ≤ sizeLine ∧ Nonempty (Itb v its.toArray s.heap) := by
  rcases e with rfl | rfl
  · cases rx with
    | @lst p xs _ f h rs =>
      cases r
      obtain ⟨its, rv, pl, hz⟩ := I.list (SqL.of h)
      obtain ⟨ol, nl, el, cl, dl, sl⟩ := id pl
      exact ⟨its, xs, rv, rs, by rw [← rv.length]; exact hz, ⟨⟨_, _, p, fun it i h => h.IsListIter it p i ∧ h.IsList p its.toArray, begins_list p its.toArray, pl.isList, Heap.lt_size el, fun prog w A it hh hn => Draws.list hh it p hn its.toArray, fun it h' hi k => ⟨⟨_, hi, rfl, rfl⟩, pl.isList.at fun o e => k p o e⟩⟩⟩⟩
  · cases rx with
    | @tup p xs _ f h rs =>
      cases r
      obtain ⟨its, rv, pl, hz⟩ := I.tuple (SqT.of h)
      exact ⟨its, xs, rv, rs, by rw [← rv.length]; exact hz, ⟨⟨_, _, p, fun it i h => h.IsTupleIter it p i ∧ h.IsTuple p its.toArray, begins_tuple p its.toArray, pl, pl.lt, fun prog w A it hh hn => Draws.tuple hh it p hn its.toArray, fun it h' hi k => ⟨⟨_, hi, rfl, rfl⟩, (show s.heap.IsTuple p its.toArray from pl).at fun o e => k p o e⟩⟩⟩⟩

theorem zw_get {ds es : List D} {j : Nat} : (List.zipWith (fun x y => PyData.tuple [x, y]) ds es)[j]? = (ds[j]?.bind fun x => es[j]?.map fun y => .tuple [x, y]) := by
  rw [List.getElem?_zipWith]
  cases ds[j]? <;> cases es[j]? <;> rfl

theorem reps_of_get {β : Addr} {F : Addr → Prop} {H : Hp} : ∀ {vs : List V} {ds : List D}, vs.length = ds.length → (∀ (j : Nat) v d, vs[j]? = some v → ds[j]? = some d → Rep β F H v d) → Reps β F H vs ds
  | [], [], _, _ => .nil
  | v :: vs, d :: ds, e, h => .cons (h 0 v d rfl rfl) (reps_of_get (Nat.succ.inj e) fun j v' d' h1 h2 => h (j + 1) v' d' h1 h2)
  | [], _ :: _, e, _ => by cases e
  | _ :: _, [], e, _ => by cases e
def zipOf (x y : D) : Option (Bool × D) := (seqD x).bind fun ds => (seqD y).map fun es => (true, .list (List.zipWith (fun x y => PyData.tuple [x, y]) ds es))
def lzM (f : M (List D)) : M (Bool × D) := f.bind fun xs => match xs with
  | [x, y] => opt (zipOf x y)
  | _ => stk
theorem seqD_some {d : D} {ds : List D} (h : seqD d = some ds) : d = .list ds ∨ d = .tuple ds := by
  cases d <;> first | (cases h; exact .inl rfl) | (cases h; exact .inr rfl) | cases h
theorem rx_lzip {X : Cx} {L : Lo} {W : WX} {a c : Expr} {f : M (List D)} {q p p2 pos : Pos} (hc : X.calm = true) (ha : RA X L W [a, c] f) (hg : Gl X "list") (hm : X.mg "list" = none) (hg2 : Gl X "zip") (hm2 : X.mg "zip" = none)
    (hs : starEach [a, c] X.env = (false, eval a X.env) :: starEach [c] X.env := by rfl) (hpl : (backTo q (starEach [c] X.env)).any (·.1) = false := by rfl)
    (na : starEach [.Call (.Name "zip" p2) [a, c] [] q] X.env = (false, eval (.Call (.Name "zip" p2) [a, c] [] q) X.env) :: starEach [] X.env := by rfl) :
    RX X L W (.Call (.Name "list" p) [.Call (.Name "zip" p2) [a, c] [] q] [] pos) (lzM f) := by
  refine ⟨fun pins s σ H Q I ⟨F, en, b, eo, hq⟩ => ?_⟩
  refine Call_ (ld_blt I hg hm boot_list (callWith_type1 (args_cons (thn (Q := fun v s1 => wpAny (model X.prog X.w) X.A (call (.type "list") [v]) (EP X pins σ Q) X.xe s1) ?_ fun v s1 hv => args_nil hv) na) na))
  have hA : tA L W f σ H fun vs H1 => ∃ F1 en1 b1 x y rr, EO L F1 H1 σ en1 b1 ∧ Reps L.β F1 H1 vs [x, y] ∧ zipOf x y = some rr ∧ ∀ v F' H', Stp L σ F1 H1 en1 F' H' en1 → EO L F' H' σ en1 b1 → ResOk L F' H' σ en1 v rr → ResNew H1 v rr → Q v H' := by
    refine ⟨F, en, b, eo, ?_⟩
    unfold lzM M.bind at hq
    cases hf : f en b with
    | stuck => rw [hf] at hq; exact hq
    | exc x en' b' => rw [hf] at hq; exact hq
    | ok xs en1 b1 =>
      rw [hf] at hq
      intro vs F1 H1 l1 o1 r1
      match xs, hq, r1 with
      | [x, y], hq, r1 =>
        dsimp only [opt] at hq
        cases ho : zipOf x y with
        | none => rw [ho] at hq; exact hq.elim
        | some rr =>
          rw [ho] at hq
          exact ⟨F1, en1, b1, x, y, rr, o1, r1, ho, fun v F' H' l o r n => hq v F' H' (l1.trans l) o r (n.back l1)⟩
  refine Call_ (ld_blt I hg2 hm2 PyProof.Rows.boot_zip (callWith_type1 (thn (ha.run q pins s σ H _ I hA) fun us s1 ⟨vs, H1, I1, rv, F1, en1, b1, x, y, rr, o1, r1, ho, k1⟩ => ?_) hs hpl))
  cases r1 with
  | @cons v1 _ _ _ rx t =>
    cases t with
    | @cons v2 _ _ _ ry t2 =>
      cases t2
      obtain ⟨u1, u2, rfl, ru1, ru2⟩ := vals2 rv
      unfold zipOf at ho
      obtain ⟨ds, hds, ho⟩ := Option.bind_eq_some_iff.mp ho
      obtain ⟨es, hes, ho⟩ := Option.map_eq_some_iff.mp ho
      subst ho
      obtain ⟨its1, xs1, w1, rp1, hz1, ⟨B1⟩⟩ := itb_of I1 ru1 rx (seqD_some hds)
      obtain ⟨its2, xs2, w2, rp2, hz2, ⟨B2⟩⟩ := itb_of I1 ru2 ry (seqD_some hes)
      have hh : X.A.handled = none := I1.ok.hd hc
      refine zip_begins2 B1.B B2.B B1.hh B2.hh fun h' z1 z2 z3 g1 g2 zs zk => ?_
      have S := zip_sep2 (N := s1.heap.objs.size) (fp1 := [B1.l]) (fp2 := [B2.l]) (fun b hb => by rw [List.mem_singleton.mp hb]; exact B1.lt) (fun b hb => by rw [List.mem_singleton.mp hb]; exact B2.lt)
      have D1 := B1.D X.prog X.w X.A.in1.in1.in1 s1.heap.objs.size hh (Nat.ne_of_lt B1.lt)
      have D2 := B2.D X.prog X.w X.A.in1.in1.in1 (s1.heap.objs.size + 1) hh (Nat.ne_of_lt (Nat.lt_succ_of_lt B2.lt))
      have hn : min its1.toArray.size its2.toArray.size ≤ sizeLine := Nat.le_trans (Nat.min_le_left _ _) (by simpa using hz1)
      refine call_list_zip (s := { s1 with heap := h' }) (N0 := s1.heap.objs.size) (by show _ ≤ h'.objs.size; rw [zs]; exact Nat.le_add_right _ _) S D1 D2 hn z1 z2 ⟨_, _, z3⟩ (B1.s0 _ h' g1 zk) (B2.s0 _ h' g2 zk) (fun b hb => ?_) (fun b hb => ?_) fun h'' tk acc c' kk hl hp => ?_
      · show b < h'.objs.size
        rw [zs]
        rcases List.mem_cons.mp hb with rfl | hb
        · exact Nat.lt_add_of_pos_right (by decide)
        · rw [List.mem_singleton.mp hb]; exact Nat.lt_add_right _ B1.lt
      · show b < h'.objs.size
        rw [zs]
        rcases List.mem_cons.mp hb with rfl | hb
        · exact Nat.add_lt_add_left (by decide) _
        · rw [List.mem_singleton.mp hb]; exact Nat.lt_add_right _ B2.lt
      have keep : ∀ b u, s1.heap.get? b = some u → h''.get? b = some u := fun b u e => by
        have lt := Heap.lt_size e
        exact kk b u (Nat.ne_of_lt (Nat.lt_add_right _ lt)) (Nat.ne_of_lt (Nat.lt_add_right _ lt)) (Nat.ne_of_lt lt) (Nat.ne_of_lt (Nat.lt_add_right _ lt)) (zk b u e)
      -- the pairs' addresses, what they hold
      have szN : s1.heap.objs.size ≤ h'.objs.size := by rw [zs]; exact Nat.le_add_right _ _
      generalize hN : s1.heap.objs.size = N at *
      generalize hS : h'.objs.size = Sd at *
      obtain ⟨T, hT⟩ : ∃ T : Nat → Addr, T = fun j => match acc[j]? with | some (.ref t) => t | _ => 0 := ⟨_, rfl⟩
      have n_eq : acc.size = min its1.length its2.length := by
        have := hp.1
        simpa using this
      obtain ⟨n, hnn⟩ : ∃ n, n = min its1.length its2.length := ⟨_, rfl⟩
      have at_ : ∀ j, j < n → ∃ u v x y, acc[j]? = some (.ref (T j)) ∧ N ≤ T j ∧ xs1[j]? = some x ∧ xs2[j]? = some y ∧ RelV x u ∧ RelV y v ∧ IsTupOf2 h'' (T j) u v := fun j hj => by
        have hj1 : j < acc.size := by rw [n_eq, ← hnn]; exact hj
        obtain ⟨t, u, v, e1, e2, e3, e4, e5⟩ := hp.2 j acc[j] (Array.getElem?_eq_getElem hj1)
        have ea : acc[j]? = some (.ref t) := by rw [Array.getElem?_eq_getElem hj1, e1]
        have et : T j = t := by rw [hT]; dsimp only; rw [ea]
        have i1 : its1[j]? = some u := by simpa using e3
        have i2 : its2[j]? = some v := by simpa using e4
        have q1 : j < xs1.length := by rw [w1.length]; exact (List.getElem?_eq_some_iff.mp i1).1
        have q2 : j < xs2.length := by rw [w2.length]; exact (List.getElem?_eq_some_iff.mp i2).1
        obtain ⟨u', m1, m2⟩ := w1.get (List.getElem?_eq_getElem q1)
        obtain ⟨v', m3, m4⟩ := w2.get (List.getElem?_eq_getElem q2)
        rw [i1] at m1
        rw [i2] at m3
        cases m1
        cases m3
        exact ⟨u, v, _, _, by rw [et]; exact ea, by rw [et]; exact e2, List.getElem?_eq_getElem q1, List.getElem?_eq_getElem q2, m2, m4, by rw [et]; exact e5⟩
      have nS : ∀ j, j < n → T j ≠ Sd := fun j hj e => by
        obtain ⟨u, v, x', y', _, _, _, _, _, _, q⟩ := at_ j hj
        rw [e] at q
        have z := hl.symm.trans q
        simp at z
      obtain ⟨pr, hpr⟩ : ∃ pr : Nat → List V, pr = fun j => [xs1.getD j .non, xs2.getD j .non] := ⟨_, rfl⟩
      have pr_at : ∀ j x' y', xs1[j]? = some x' → xs2[j]? = some y' → pr j = [x', y'] := fun j x' y' h1 h2 => by
        rw [hpr]
        simp [List.getD, h1, h2]
      have same : ∀ i j, i < n → j < n → T i = T j → pr i = pr j := fun i j hi hj e => by
        obtain ⟨u, v, x', y', _, _, a3, a4, a5, a6, a7⟩ := at_ i hi
        obtain ⟨u2, v2, x2, y2, _, _, b3, b4, b5, b6, b7⟩ := at_ j hj
        rw [e] at a7
        have z := a7.symm.trans b7
        have zz : (#[u, v] : Array Value) = #[u2, v2] := by
          have z1 := Option.some.inj z
          injection z1 with _ _ z2 _
          injection z2
        have z3 : u = u2 ∧ v = v2 := by
          have := congrArg Array.toList zz
          simpa using this
        rw [pr_at i _ _ a3 a4, pr_at j _ _ b3 b4]
        obtain ⟨rfl, rfl⟩ := z3
        rw [a5.inj b5, a6.inj b6]
      obtain ⟨H2, hH2⟩ : ∃ H2 : Hp, H2 = fun b => if b < N then H1 b else if b = Sd then some (.lst ((List.range n).map fun j => V.ref (T j))) else match (List.range n).find? (fun j => T j == b) with | some j => some (.tup (pr j)) | none => none := ⟨_, rfl⟩
      have H2lt : ∀ b, b < N → H2 b = H1 b := fun b hb => by rw [hH2]; exact if_pos hb
      have H2S : H2 Sd = some (.lst ((List.range n).map fun j => V.ref (T j))) := by
        rw [hH2]
        dsimp only
        rw [if_neg (Nat.not_lt.mpr szN), if_pos rfl]
      have H2T : ∀ j, j < n → H2 (T j) = some (.tup (pr j)) := fun j hj => by
        obtain ⟨_, _, _, _, _, hge, _⟩ := at_ j hj
        rw [hH2]
        dsimp only
        rw [if_neg (Nat.not_lt.mpr hge), if_neg (nS j hj)]
        cases hfd : (List.range n).find? (fun i => T i == T j) with
        | none =>
          have := List.find?_eq_none.mp hfd j (List.mem_range.mpr hj)
          simp at this
        | some i =>
          have hi := List.mem_range.mp (List.mem_of_find?_eq_some hfd)
          have he : T i = T j := by simpa using List.find?_some hfd
          dsimp only
          rw [same i j hi hj he]
      have tup_ok : ∀ j, j < n → ObjOk X.prog X.w H2 h'' (T j) (.tup (pr j)) := fun j hj => by
        obtain ⟨u, v, x', y', _, _, a3, a4, a5, a6, a7⟩ := at_ j hj
        rw [pr_at j _ _ a3 a4]
        exact ⟨by show 2 ≤ sizeLine; decide, [u, v], .cons a5 (.cons a6 .nil), _, a7, rfl, _, rfl⟩
      have I2 : Inv X pins σ H2 { s1 with heap := h'', toks := tk } := inv_grown I1 keep (fun b hb => by rw [hN] at hb; exact H2lt b hb) fun b u hb e => by
        rw [hN] at hb
        by_cases hbS : b = Sd
        · subst hbS
          rw [H2S] at e
          cases e
          refine ⟨by rw [List.length_map, List.length_range, hnn]; exact Nat.le_trans (Nat.min_le_left _ _) hz1, acc.toList, c', ?_, by rw [Array.toArray_toList]; exact hl⟩
          have ev : acc.toList.length = n := by rw [Array.length_toList, n_eq, hnn]
          rw [← ev]
          refine vals_of_get acc.toList _ fun j u hj => ?_
          have hj' : j < n := by rw [← ev]; exact (List.getElem?_eq_some_iff.mp hj).1
          obtain ⟨_, _, _, _, a1, _⟩ := at_ j hj'
          rw [Array.getElem?_toList, a1] at hj
          exact (Option.some.inj hj).symm
        · rw [hH2] at e
          dsimp only at e
          rw [if_neg (Nat.not_lt.mpr hb), if_neg hbS] at e
          cases hfd : (List.range n).find? (fun i => T i == b) with
          | none => rw [hfd] at e; cases e
          | some i =>
            rw [hfd] at e
            cases e
            have hi := List.mem_range.mp (List.mem_of_find?_eq_some hfd)
            have he : T i = b := by simpa using List.find?_some hfd
            rw [← he]
            exact tup_ok i hi
      have lt1 : ∀ {b}, H1 b ≠ none → b < N := fun {b} e => by
        cases q : H1 b with
        | none => exact absurd q e
        | some u => rw [← hN]; exact I1.hok.lt q
      have fr1 : ∀ {b}, N ≤ b → H1 b = none := fun {b} e => by
        cases q : H1 b with
        | none => rfl
        | some u => exact absurd (lt1 (by rw [q]; simp)) (Nat.not_lt.mpr e)
      have gr : Gr H1 H2 := fun b e => H2lt b (lt1 e)
      obtain ⟨F2, hF2⟩ : ∃ F2 : Addr → Prop, F2 = fun b => F1 b ∨ ∃ j, j < n ∧ b = T j := ⟨_, rfl⟩
      have le : Le F1 H1 F2 H2 := fun b f => ⟨by rw [hF2]; exact .inl f, gr b (o1.fh b f).1⟩
      have new : ∀ b, F2 b → F1 b ∨ H1 b = none := fun b f => by
        rw [hF2] at f
        rcases f with f | ⟨j, hj, rfl⟩
        · exact .inl f
        · obtain ⟨_, _, _, _, _, hge, _⟩ := at_ j hj
          exact .inr (fr1 hge)
      have o2 := o1.more gr le new fun b f => by
        rw [hF2] at f
        rcases f with f | ⟨j, hj, rfl⟩
        · rw [gr b (o1.fh b f).1]; exact (o1.fh b f).1
        · rw [H2T j hj]; simp
      have hSn : H1 Sd = none := fr1 szN
      obtain ⟨m1, m2, m3, m4⟩ := o1.new0 hSn
      have rl : Reps L.β F2 H2 ((List.range n).map fun j => V.ref (T j)) (List.zipWith (fun x y => PyData.tuple [x, y]) ds es) := reps_of_get (by rw [List.length_map, List.length_range, List.length_zipWith, hnn, ← w1.length, ← w2.length, rp1.len, rp2.len]) fun j v d hv hd => by
        have hj : j < n := by
          have := (List.getElem?_eq_some_iff.mp hv).1
          simpa using this
        rw [List.getElem?_map, List.getElem?_range hj] at hv
        cases hv
        obtain ⟨u, v, x', y', _, _, a3, a4, a5, a6, a7⟩ := at_ j hj
        obtain ⟨d1, k3, k4⟩ := rp1.getV a3
        obtain ⟨d2, k5, k6⟩ := rp2.getV a4
        rw [zw_get, k3, k5] at hd
        cases hd
        refine .tup (by rw [hF2]; exact .inr ⟨j, hj, rfl⟩) (H2T j hj) ?_
        rw [pr_at j _ _ a3 a4]
        exact .cons (k4.mono le) (.cons (k6.mono le) .nil)
      refine ⟨.ref Sd, H2, I2, rfl, k1 _ F2 H2 (Stp.more gr le new) o2 ⟨Sd, rfl, ⟨fun f => ?_, m3, m4, m1, _, H2S, rl⟩, fun i d' h1 h2 => ?_⟩ fun _ b e => by cases e; exact hSn⟩
      · rw [hF2] at f
        rcases f with f | ⟨j, hj, e⟩
        · exact m2 f
        · exact nS j hj e.symm
      · obtain ⟨b', q1, q2⟩ := o1.ow i d' h1
        rw [h2] at q1
        cases q1
        exact q2.there hSn
end
end PL
namespace PL
open PySem PySem.Spec PyProof.Rows L2
section
variable {X : Cx} {L : Lo} {W : WX} {F F' : Addr → Prop} {H H' : Hp} {σ : St} {en : SE} {b : Bg}
variable {a c e : Expr} {pos : Pos} {st : Stmt}
/-! ### several names, any of them cells -/
def gNames : List Nat → TGs
  | [] => gNil
  | i :: is => gCons (gName i) (gNames is)
theorem gNames_ok : ∀ {is : List Nat} {vs : List V} {σ : St} {H : Hp} {Q : St → Hp → Prop}, vs.length = is.length → Q (setsV σ is vs) H → gNames is vs σ H Q
  | [], [], _, _, _, _, h => ⟨rfl, h⟩
  | i :: is, v :: vs, _, _, _, e, h => ⟨v, vs, rfl, gNames_ok (Nat.succ.inj e) h⟩
  | [], _ :: _, _, _, _, e, _ => by cases e
  | _ :: _, [], _, _, _, e, _ => by cases e
theorem RsOk.step {en' : SE} (o : EO L F H σ en b) (s : Stp L σ F H en F' H' en') : ∀ {vs : List V} {rs : List (Bool × D)}, RsOk L F H σ en vs rs → RsOk L F' H' σ en' vs rs
  | [], [], _ => trivial
  | _ :: _, _ :: _, h => ⟨h.1.step o s, h.2.1, RsOk.step o s h.2.2⟩
  | [], _ :: _, h => h.elim
  | _ :: _, [], h => h.elim
theorem rs_parT {is : List Nat} {f : M (List (Bool × D))} (hn : ∀ en b rs en' b', f en b = .ok rs en' b' → rs.length = is.length) (hz : is.length ≤ sizeLine := by decide) (h : PS X st (tAsg (tTup (tR L W f)) (gTup X.K is.length (gNames is)))) : RS X L W st (parM is f) := psImp h fun Dn σ H ⟨F, en, b, eo, q⟩ => ⟨F, en, b, eo, by
  unfold parM M.bind at q
  cases hf : f en b with
  | stuck => rw [hf] at q; exact q
  | exc x en' b' => rw [hf] at q; exact fun F2 H2 cls dd l o2 => q σ F2 H2 cls dd l o2
  | ok rs en' b' =>
    rw [hf] at q
    intro vs F2 H2 l o2 r _
    have hl : vs.length = is.length := r.len.trans (hn _ _ _ _ _ hf)
    refine ⟨by rw [hl]; exact hz, fun p hp => ⟨p, vs, rfl, .of upd_same, hl, gNames_ok hl ?_⟩⟩
    dsimp only at q
    by_cases hc : is.length = rs.length ∧ ∀ i ∈ is, i < en'.length
    · rw [if_pos hc] at q
      have g := gr_upd (u := .tup vs) hp
      have s := Stp.grow (H' := upd H2 p (.tup vs)) o2 g
      exact q _ F2 _ (l.trans s).le ((o2.grow g).binds (RsOk.step o2 s r) hc.2 hc.1)
    · rw [if_neg hc] at q
      exact q.elim⟩
/-! ### enumerate(list) -/
def enumL (ds : List D) : List D := ds.zipIdx.map fun p => .tuple [.int (p.2 : Nat), p.1]
theorem enumL_get {ds : List D} {i : Nat} : (enumL ds)[i]? = ds[i]?.map fun d => .tuple [.int (i : Nat), d] := by
  unfold enumL
  rw [List.getElem?_map, List.getElem?_zipIdx]
  cases ds[i]? <;> simp
theorem enumL_len {ds : List D} : (enumL ds).length = ds.length := by unfold enumL; rw [List.length_map, List.length_zipIdx]
/-- a new tuple is handed out -/
theorem yld_tup {F2 : Addr → Prop} {H2 : Hp} {T : Addr} {xs : List V} {ds : List D} (t : ∀ a, F2 a → H2 a ≠ none) (hT : H2 T = none) (r : Reps L.β F2 H2 xs ds) :
    ∃ F', Le F2 H2 F' (upd H2 T (.tup xs)) ∧ Gr H2 (upd H2 T (.tup xs)) ∧ (∀ a, F' a → F2 a ∨ H2 a = none) ∧ (∀ a, F' a → upd H2 T (.tup xs) a ≠ none) ∧ Rep L.β F' (upd H2 T (.tup xs)) (.ref T) (.tuple ds) := by
  have g := gr_upd (u := .tup xs) hT
  have le : Le F2 H2 (frz1 F2 T) (upd H2 T (.tup xs)) := fun a f => ⟨.inl f, g a (t a f)⟩
  refine ⟨frz1 F2 T, le, g, fun a f => ?_, fun a f => ?_, .tup (.inr rfl) upd_same (r.mono le)⟩
  · rcases f with f | rfl
    · exact .inl f
    · exact .inr hT
  · rcases f with f | rfl
    · rw [g a (t a f)]; exact t a f
    · rw [upd_same]; simp
theorem walk_enumL {K : PySem.W.Frag} {p : Addr} {xs : List V} {ds : List D} (f : F p) (h : H p = some (.lst xs)) (r : Reps L.β F H xs ds) : WalkOk L (Ite K p) F H (enumL ds) where
  go := fun i d F2 H2 e l t => by
    rw [enumL_get] at e
    obtain ⟨d0, hd, rfl⟩ := mapSome e
    have h2 : H2 p = some (.lst xs) := (l p f).2.trans h
    obtain ⟨y, hy, ry⟩ := (r.mono l).get hd
    refine ⟨⟨xs, y, .of h2, hy⟩, fun v H' ⟨T, x, ev, hT, eH, k⟩ => ?_⟩
    have k' := k xs (.of h2)
    rw [hy] at k'
    cases k'
    subst ev
    subst eH
    exact yld_tup t hT (.cons (.int _) (.cons ry .nil))
  stop := fun F2 H2 l => ⟨xs, .of ((l p f).2.trans h), by rw [enumL_len, r.len]; exact Nat.le_refl _⟩
def enW (f : M (List D)) : M (List D) := f.bind fun x => match x with
  | [.list ds] => M.ret (enumL ds)
  | _ => stk
theorem ri_enum {p tpos : Pos} {elts : List Expr} {kk : Nat} {f : M (List D)} (ha : RA X L W [a] f) (hg : Gl X "enumerate") (hm : X.mg "enumerate" = none) (hs : starEach [a] X.env = [(false, eval a X.env)] := by rfl) : RI X L W (.Tuple elts kk tpos) (.Call (.Name "enumerate" p) [a] [] pos) (enW f) :=
  piImp (pi_enum hg hm ha hs) fun σ H R ⟨F, en, b, eo, q⟩ => ⟨F, en, b, eo, by
    unfold enW M.bind at q
    cases hf : f en b with
    | stuck => rw [hf] at q; exact q
    | exc x en' b' => rw [hf] at q; exact q
    | ok d en' b' =>
      rw [hf] at q
      intro v F2 H2 l o2 rv
      match d, q, rv with
      | [.list ds], q, rv =>
        obtain ⟨y, rfl, ry⟩ := one_rep (L := L) rv
        cases ry with
        | lst f h r => exact ⟨_, _, rfl, .of h, q _ F2 H2 l o2 (walk_enumL f h r)⟩⟩
end
end PL
namespace PL
open PySem PySem.Spec PyProof.Rows L2
section
variable {X : Cx} {L : Lo} {W : WX} {F F' : Addr → Prop} {H H' : Hp} {σ : St} {en : SE} {b : Bg}
variable {a c e : Expr} {pos : Pos} {st : Stmt}
/-! ### the bag -/
def isBag : D → Bool
  | .dict [(.list [], .none)] => true
  | _ => false
theorem rep_isBag {v : V} {d : D} (r : Rep L.β F H v d) (h : isBag d = true) : v = .ref L.β := by
  unfold isBag at h
  split at h
  · cases r with
    | dK f g k =>
      exfalso
      generalize hx : [((PyData.list [], PyData.none))] = xs at k
      cases k with
      | nil => cases hx
      | cons r' k' =>
        rename_i kk _ _ _ _
        cases kk <;> (unfold keyD at hx; simp at hx)
    | bag => rfl
  · cases h
def onBag {α : Type} (i : Nat) (k : SE → Bg → Out α) : M α := fun en b => match en[i]? with
  | some (some (false, d)) => if isBag d = true ∧ b.scr = false then k en b else .stuck
  | _ => .stuck
theorem onBag_ok {α : Type} (i : Nat) (k : SE → Bg → Out α) (en : SE) (b : Bg) : (∃ d, en[i]? = some (some (false, d)) ∧ (isBag d = true ∧ b.scr = false) ∧ onBag i k en b = k en b) ∨ onBag i k en b = .stuck := by
  unfold onBag
  match h : en[i]? with
  | some (some (false, d)) =>
    by_cases hd : isBag d = true ∧ b.scr = false
    · exact .inl ⟨d, rfl, hd, if_pos hd⟩
    · exact .inr (if_neg hd)
  | some (some (true, _)) => exact .inr rfl
  | some none => exact .inr rfl
  | none => exact .inr rfl
theorem EO.bagAt (o : EO L F H σ en b) {i : Nat} {d : D} (h : en[i]? = some (some (false, d))) (hd : isBag d = true) : σ[i]? = some (some (V.ref L.β)) := by
  obtain ⟨v, h1, r⟩ := o.sl i d h
  rw [h1, rep_isBag r hd]
/-- the bag's reading by a constant index -/
def tBg (K : PySem.W.Frag) (i : Nat) (j : Int) : TE := tOp (rIx K) (tVar i) (tC (.int j))
theorem pe_bg {i : Nat} {j : Int} {j1 p1} (ha : PE X a (tVar i)) : PE X (.Subscript a (.Constant (.int j) j1 p1) pos) (tBg X.K i j) := pe_ix ix_seq ha pe_int (by exact fun _ _ => rfl)
theorem tBg_ok {K : PySem.W.Frag} {i : Nat} {j : Int} {v : V} {Q : VK} (o : EO L F H σ en b) {d : D} (h : en[i]? = some (some (false, d))) (hd : isBag d = true ∧ b.scr = false) (hv : atI [V.ref L.γ, .int b.cur, .int b.mix] j = some v) (q : Q v H) : tBg K i j σ H Q :=
  ⟨_, o.bagAt h hd.1, .inl ⟨_, _, _, _, rfl, rfl, .of (o.bg.on hd.2).2.1, hv, q⟩⟩
def kCur : SE → Bg → Out D := fun en b => .ok (.int b.cur) en b
def kMix : SE → Bg → Out D := fun en b => .ok (.int b.mix) en b
def kPop : SE → Bg → Out D := fun en b => match b.cells[b.cells.length - 1]? with
  | some x => .ok (.int x) en { b with cells := b.cells.dropLast }
  | none => .stuck
def kMore : SE → Bg → Out Bool := fun en b => .ok (!b.cells.isEmpty) en b
def kSetCur (d : D) : SE → Bg → Out Unit := fun en b => match d with
  | .int z => .ok () en { b with cur := z }
  | _ => .stuck
def kSetMix (d : D) : SE → Bg → Out Unit := fun en b => match d with
  | .int z => .ok () en { b with mix := z }
  | _ => .stuck
def bagCur (i : Nat) : M D := onBag i kCur
def bagMix (i : Nat) : M D := onBag i kMix
theorem re_cur {i : Nat} {j1 p1} (ha : PE X a (tVar i)) : RE X L W (.Subscript a (.Constant (.int 1) j1 p1) pos) (bagCur i) := peImp (pe_bg ha) fun σ H Q ⟨F, en, b, eo, q⟩ => by
  unfold bagCur at q
  rcases onBag_ok i kCur en b with ⟨d, h, hd, e⟩ | e
  · rw [e] at q
    exact tBg_ok eo h hd rfl (q _ F H .refl eo (.int _))
  · rw [e] at q; exact q.elim
theorem re_mix {i : Nat} {j1 p1} (ha : PE X a (tVar i)) : RE X L W (.Subscript a (.Constant (.int 2) j1 p1) pos) (bagMix i) := peImp (pe_bg ha) fun σ H Q ⟨F, en, b, eo, q⟩ => by
  unfold bagMix at q
  rcases onBag_ok i kMix en b with ⟨d, h, hd, e⟩ | e
  · rw [e] at q
    exact tBg_ok eo h hd rfl (q _ F H .refl eo (.int _))
  · rw [e] at q; exact q.elim
/-- a change of the bag alone -/
theorem EO.bagW (o : EO L F H σ en b) {b' : Bg} (hs : b.scr = false) (hs' : b'.scr = false) (h1 : H' L.β = some (.lst [.ref L.γ, .int b'.cur, .int b'.mix])) (h2 : H' L.γ = some (.lst (b'.cells.map V.int))) (off : ∀ q, q ≠ L.β → q ≠ L.γ → H' q = H q) :
    EO L F H' σ en b' ∧ Stp L σ F H en F H' en := by
  have le : Le F H F H' := fun q f => ⟨f, off q (o.fh q f).2.1 (o.fh q f).2.2⟩
  refine ⟨⟨fun q f => ⟨by rw [(le q f).2]; exact (o.fh q f).1, (o.fh q f).2⟩, fun q hq n1 n2 => by rw [off q n1 n2]; exact o.ent q hq n1 n2, o.f0, o.fn, o.len, fun i d h => ?_, fun i d h => ?_, o.di, ⟨⟨by rw [h1]; simp, by rw [h2]; simp⟩, fun _ => ⟨(o.bg.on hs).1, h1, h2⟩, fun z => by rw [hs'] at z; cases z⟩⟩,
    ⟨le, fun q _ n1 n2 _ => off q n1 n2, fun q f => .inl f, fun q w => w, fun q hq => ?_⟩⟩
  · obtain ⟨v, k1, k2⟩ := o.sl i d h
    exact ⟨v, k1, k2.mono le⟩
  · obtain ⟨p, k1, w⟩ := o.ow i d h
    exact ⟨p, k1, w.nf, w.nb, w.nc, w.new, w.top.mono le (off p w.nb w.nc)⟩
  · by_cases e1 : q = L.β
    · rw [e1, h1]; simp
    · by_cases e2 : q = L.γ
      · rw [e2, h2]; simp
      · rw [off q e1 e2]; exact hq
/-- bag[0].pop() -/
def bagPop (i : Nat) : M D := onBag i kPop
theorem re_bagPop {i : Nat} (h : PE X e (tBM0 X.K "list" rPop (tBg X.K i 0))) : RE X L W e (bagPop i) := peImp h fun σ H Q ⟨F, en, b, eo, q⟩ => by
  unfold bagPop at q
  rcases onBag_ok i kPop en b with ⟨d, hh, hd, e⟩ | e
  · rw [e] at q
    unfold kPop at q
    cases hx : b.cells[b.cells.length - 1]? with
    | none => rw [hx] at q; exact q.elim
    | some x =>
      rw [hx] at q
      dsimp only at q
      have ne := (eo.bg.on hd.2).1
      obtain ⟨o2, s2⟩ := eo.bagW (b' := { b with cells := b.cells.dropLast }) hd.2 hd.2 (H' := upd H L.γ (.lst (b.cells.dropLast.map V.int))) (by rw [upd_ne ne]; exact (eo.bg.on hd.2).2.1) upd_same fun q n1 n2 => upd_ne n2
      refine tBg_ok eo hh hd (v := .ref L.γ) rfl ⟨.inl ⟨rfl, _, .inl (.inl (eo.bg.on hd.2).2.2)⟩, _, _, .int x, rfl, rfl, (eo.bg.on hd.2).2.2, by rw [List.length_map, List.getElem?_map, hx]; rfl, ?_⟩
      have : (b.cells.map V.int).dropLast = b.cells.dropLast.map V.int := by rw [List.map_dropLast]
      rw [this]
      exact q _ F _ s2 o2 (.int _)
  · rw [e] at q; exact q.elim
theorem ints_reps : ∀ xs : List Int, Reps L.β F H (xs.map V.int) (xs.map PyData.int)
  | [] => .nil
  | x :: xs => .cons (.int x) (ints_reps xs)
theorem lay_ints : ∀ xs : List Int, PyData.canLayAll0 (xs.map PyData.int) = true
  | [] => rfl
  | x :: xs => by
    show PyData.canLayAll0 (PyData.int x :: xs.map PyData.int) = true
    unfold PyData.canLayAll0
    rw [lay_ints xs]
    rfl
theorem depth_ints : ∀ xs : List Int, PyData.depthAll (xs.map PyData.int) ≤ 1
  | [] => by decide
  | x :: xs => by
    show PyData.depthAll (PyData.int x :: xs.map PyData.int) ≤ 1
    unfold PyData.depthAll
    have := depth_ints xs
    have : PyData.depth (.int x) ≤ 1 := by unfold PyData.depth; omega
    omega
/-- bag[0] != [] -/
def bagMore (i : Nat) : M Bool := onBag i kMore
theorem eqv_nil (xs : List Int) : PyData.eqv (.list (xs.map PyData.int)) (.list []) = xs.isEmpty := by
  cases xs <;> rfl
theorem shaped_ints (xs : List Int) : SeqAt.shaped (.list (xs.map PyData.int)) = true := by
  unfold SeqAt.shaped
  have h1 : PyData.canLay0 (.list (xs.map PyData.int)) = true := by unfold PyData.canLay0; exact lay_ints xs
  have h2 : PyData.depth (.list (xs.map PyData.int)) ≤ 64 := by
    unfold PyData.depth
    have := depth_ints xs
    omega
  rw [h1, decide_eq_true h2]
  rfl
theorem dp_ints {K : PySem.W.Frag} : ∀ xs : List Int, DpAll K H (xs.map V.int) (xs.map PyData.int)
  | [] => .nil
  | x :: xs => .cons (.int x) (dp_ints xs)
theorem tMore_ok {P : Bool → Hp → Prop} {Q : VK} (op : R2) (eo : EO L F H σ en b) {i : Nat} {d : D} (h : en[i]? = some (some (false, d))) (hd : isBag d = true ∧ b.scr = false)
    (ho : ∀ p, H p = none → op (.ref L.γ) (.ref p) (upd H p (.lst [])) Q) : tOp op (tBg X.K i 0) (tLst tNil) σ H Q :=
  tBg_ok eo h hd (v := .ref L.γ) rfl ⟨Nat.zero_le _, fun p hp => ho p hp⟩
theorem tMore_read {op : R2} {kk : SE → Bg → Out Bool} {g : List Int → Bool} (hg : ∀ en b, kk en b = .ok (g b.cells) en b) {i : Nat} (ho : ∀ (xs : List Int) (γ p : Addr) (H : Hp) (Q : VK), H γ = some (.lst (xs.map V.int)) → H p = some (.lst []) → Q (.bl (g xs)) H → op (.ref γ) (.ref p) H Q) {σ : St} {H : Hp} {Q : Bool → Hp → Prop} (h : tB L W (onBag i kk) σ H Q) :
    tTest (tOp op (tBg X.K i 0) (tLst tNil)) σ H Q := by
  obtain ⟨F, en, b, eo, q⟩ := h
  rcases onBag_ok i kk en b with ⟨d, hh, hd, e⟩ | e
  · rw [e, hg] at q
    refine tMore_ok (P := fun _ _ => True) op eo hh hd fun p hp => ?_
    have g := gr_upd (u := .lst []) hp
    have hne : L.γ ≠ p := fun z => eo.c0 (z ▸ hp)
    exact ho b.cells L.γ p _ _ ((upd_ne hne).trans (eo.bg.on hd.2).2.2) upd_same ⟨_, rfl, q F _ (Stp.grow eo g) (eo.grow g)⟩
  · rw [e] at q; exact q.elim
theorem rt_more {i : Nat} {j0 p0} {lp p1 : Pos} (hu : X.A.units + 64 < cLine) (ha : PE X a (tVar i)) : RT X L W (.Compare (.Subscript a (.Constant (.int 0) j0 p0) p1) [.NotEq] [.List [] lp] pos) (bagMore i) :=
  ptImp (pt_cmpR (op_neD hu) (pe_bg ha) (pe_lst pa_nil) (nomark _)) fun σ H Q h => tMore_read (g := fun xs => !xs.isEmpty) (fun _ _ => rfl) (fun xs γ p H Q h1 h2 q =>
    ⟨_, _, .lst (.of h1) (dp_ints xs), .lst (.of h2) .nil, shaped_ints xs, rfl, by rw [eqv_nil]; exact q⟩) h
/-- bag[0] == [] -/
def kLess : SE → Bg → Out Bool := fun en b => .ok b.cells.isEmpty en b
def bagLess (i : Nat) : M Bool := onBag i kLess
theorem rt_less {i : Nat} {j0 p0} {lp p1 : Pos} (hu : X.A.units + 64 < cLine) (ha : PE X a (tVar i)) : RT X L W (.Compare (.Subscript a (.Constant (.int 0) j0 p0) p1) [.Eq] [.List [] lp] pos) (bagLess i) :=
  ptImp (pt_cmpR (op_eqD hu) (pe_bg ha) (pe_lst pa_nil) (nomark _)) fun σ H Q h => tMore_read (g := fun xs => xs.isEmpty) (fun _ _ => rfl) (fun xs γ p H Q h1 h2 q =>
    ⟨_, _, .lst (.of h1) (dp_ints xs), .lst (.of h2) .nil, shaped_ints xs, rfl, by rw [eqv_nil]; exact q⟩) h
/-- bag[1] = e, bag[2] = e -/
def bagSetCur (i : Nat) (f : M D) : M Fl := f.bind fun d => (onBag i (kSetCur d)).bind fun _ => M.ret .nx
def bagSetMix (i : Nat) (f : M D) : M Fl := f.bind fun d => (onBag i (kSetMix d)).bind fun _ => M.ret .nx
theorem rs_bagSet {i : Nat} {j : Int} {jn : Nat} {f : M D} {kk : D → SE → Bg → Out Unit} {g : Int → Bg → Bg} (hk : ∀ d en b, (∃ z, d = .int z ∧ kk d en b = .ok () en (g z b)) ∨ kk d en b = .stuck)
    (hj : ixN 3 j = some jn) (hgc : ∀ z b, (g z b).cells = b.cells) (hgs : ∀ z b, (g z b).scr = b.scr) (hg : ∀ z (b : Bg) γ, [V.ref γ, .int b.cur, .int b.mix].set jn (.int z) = [V.ref γ, .int (g z b).cur, .int (g z b).mix])
    (h : PS X st (tAsg (tD L W f) (gSub (tVar i) (tC (.int j)) rSetL))) : RS X L W st (f.bind fun d => (onBag i (kk d)).bind fun _ => M.ret .nx) := psImp h fun Dn σ H ⟨F, en, b, eo, q⟩ => ⟨F, en, b, eo, by
  unfold M.bind at q
  cases hf : f en b with
  | stuck => rw [hf] at q; exact q
  | exc x en' b' => rw [hf] at q; exact fun F2 H2 cls dd l o2 => q σ F2 H2 cls dd l o2
  | ok d en1 b1 =>
    rw [hf] at q
    intro v F1 H1 l1 o1 rv
    dsimp only at q
    rcases onBag_ok i (kk d) en1 b1 with ⟨d', hh, hd, e⟩ | e
    · rw [e] at q
      rcases hk d en1 b1 with ⟨z, rfl, e2⟩ | e2
      · rw [e2] at q
        dsimp only at q
        cases rv
        obtain ⟨o2, s2⟩ := o1.bagW (b' := g z b1) hd.2 (by rw [hgs]; exact hd.2) (H' := upd H1 L.β (.lst [V.ref L.γ, .int (g z b1).cur, .int (g z b1).mix])) upd_same (by rw [upd_ne (Ne.symm ((o1.bg.on hd.2).1)), hgc]; exact (o1.bg.on hd.2).2.2) fun q n1 n2 => upd_ne n1
        refine ⟨_, o1.bagAt hh hd.1, _, _, _, _, rfl, rfl, (o1.bg.on hd.2).2.1, hj, ?_⟩
        rw [hg]
        exact q σ F1 _ (l1.trans s2).le o2
      · rw [e2] at q; exact q.elim
    · rw [e] at q; exact q.elim⟩
theorem rs_setCur {i : Nat} {f : M D} (h : PS X st (tAsg (tD L W f) (gSub (tVar i) (tC (.int 1)) rSetL))) : RS X L W st (bagSetCur i f) :=
  rs_bagSet (jn := 1) (g := fun z b => { b with cur := z }) (fun d en b => by cases d <;> first | exact .inr rfl | exact .inl ⟨_, rfl, rfl⟩) (by decide) (fun _ _ => rfl) (fun _ _ => rfl) (fun _ _ _ => rfl) h
theorem rs_setMix {i : Nat} {f : M D} (h : PS X st (tAsg (tD L W f) (gSub (tVar i) (tC (.int 2)) rSetL))) : RS X L W st (bagSetMix i f) :=
  rs_bagSet (jn := 2) (g := fun z b => { b with mix := z }) (fun d en b => by cases d <;> first | exact .inr rfl | exact .inl ⟨_, rfl, rfl⟩) (by decide) (fun _ _ => rfl) (fun _ _ => rfl) (fun _ _ _ => rfl) h
end
end PL
namespace PL
open PySem PySem.Spec PyProof.Rows L2
theorem L2Room_units200 {k : Nat} {A : Around} (r : Room k A) : A.units + 200 < cLine := by have := r.un; omega
/-- a def keeps a promise by data -/
def DfOk (P : Program) (w : World) (K : PySem.W.Frag) (mg : Str → Option Value) (base : Heap) (k : Nat) (x : Str) (st : Stmt) (ps : List Str) (β γ : Addr) (xr : ExR) (n : Nat) (m : Fn) : Prop :=
  ∃ f fd, mg x = some (.ref f) ∧ FunD K x x (defArgs st) (defBody st) (defScope st) [] [] f fd ∧ FnG P w K mg base k f fd ps (spM β γ xr n m)
end PL
/-! list(reversed(x)), x[::-1], for .. in reversed(x) -/
namespace PL
open PySem PySem.Spec L2
section
variable {prog : Program} {w : World} {A : Around} {E : Value → Shared → Prop} {s : Shared}
theorem call_list_rev {it l : Addr} {items : Array Value} {Q : Value → Shared → Prop} (hh : A.handled = none) (hit : s.heap.IsRevIter it l ((items.size : Int) - 1)) (hl : s.heap.IsList l items) (hne : l ≠ it) (hn : items.size ≤ sizeLine)
    (hQ : ∀ (h' : Heap) (tk : Nat) (acc : Array Value) (c' : Nat), (∀ b o, b ≠ it → s.heap.get? b = some o → h'.get? b = some o) → h'.get? s.heap.objs.size = some { cls := .type "list", dict := none, data := .seq acc c', slots := #[] } → ItemsOf (fun i v => items[items.size - 1 - i]? = some v) acc items.size → Q (.ref s.heap.objs.size) { s with heap := h', toks := tk }) :
    wpAny (model prog w) A (call (.type "list") [.ref it]) Q E s := by
  have W := (Walks.listRev (prog := prog) (w := w) (A := A.in1.in1) hh it l hne items).toS
  obtain ⟨oi, hoi, _⟩ := id hit
  obtain ⟨ol, hol, _⟩ := id hl
  have hSi : s.heap.objs.size ≠ it := Nat.ne_of_gt (Heap.lt_size hoi)
  have hSl : s.heap.objs.size ≠ l := Nat.ne_of_gt (Heap.lt_size hol)
  have hSf : s.heap.objs.size ∉ [it, l] := by simp only [List.mem_cons, List.not_mem_nil, or_false, not_or]; exact ⟨hSi, hSl⟩
  refine callType_codes (Q₁ := fun obj s₁ => obj = .ref s.heap.objs.size ∧ s₁ = { s with heap := s.heap.push { cls := .type "list", data := .seq #[] } }) F.called_list (F.typeCall_list_1 _) F.entry_list_init
    (code_list_new _ ⟨rfl, rfl⟩) fun obj s₁ h₁ => ?_
  obtain ⟨rfl, rfl⟩ := h₁
  have hS : (s.heap.push { cls := .type "list", data := .seq #[] }).get? s.heap.objs.size = some { cls := .type "list", data := .seq #[] } := Heap.get?_push_size _ rfl
  refine ⟨⟨_, hS, rfl⟩, F.args_list_init_2 _ _, ?_⟩
  show wpAny _ _ (do let old ← Builtin.List.listItems (.ref s.heap.objs.size); Builtin.List.listUpdate (.ref s.heap.objs.size) (fun _ => #[]); letGo old.toList.reverse; Builtin.List.listExtendWith (.ref s.heap.objs.size) (.ref it) .none) _ _ _
  refine wpAny_bind ?_
  unfold Builtin.List.listItems
  refine wpAny_bind (wpAny_seqItems hS rfl (wpAny_pure ?_))
  show wpAny _ _ (updateSeq s.heap.objs.size (fun _ => #[]) >>= fun _ => letGo (#[] : Array Value).toList.reverse >>= fun _ => Builtin.List.listExtendWith (.ref s.heap.objs.size) (.ref it) .none) _ _ _
  refine wpAny_bind (wpAny_updateSeq hS rfl ?_)
  refine wpAny_bind (wpAny_letGo ?_)
  have k2 : ∀ b o, b ≠ s.heap.objs.size → s.heap.get? b = some o → ((s.heap.push { cls := .type "list", data := .seq #[] }).update s.heap.objs.size (Obj.mapSeq (fun _ => (#[] : Array Value)))).get? b = some o := fun b o hb e => (Heap.get?_update_other _ _ (Ne.symm hb)).trans (Heap.get?_push_of_some _ e)
  have hS₂ := Heap.get?_update_self (Obj.mapSeq (fun _ => (#[] : Array Value))) hS rfl
  generalize hh2 : (s.heap.push { cls := .type "list", data := .seq #[] }).update s.heap.objs.size (Obj.mapSeq (fun _ => (#[] : Array Value))) = g2 at k2 hS₂ ⊢
  have hit2 : g2.IsRevIter it l ((items.size : Int) - 1) := hit.at fun o e => k2 _ _ hSi.symm e
  have hl2 : g2.IsList l items := by
    obtain ⟨o, ho, r⟩ := hl
    exact ⟨o, k2 _ _ hSl.symm ho, r⟩
  have hT : ({ s with heap := g2 } : Shared).TypeIs (.ref it) "list_reverseiterator" := Heap.IsRevIter.typeIs (s := { s with heap := g2 }) hit2
  have h1 : Builtin.List.listSameRef (.ref s.heap.objs.size) (.ref it) = false := by simp [Builtin.List.listSameRef, hSi]
  unfold Builtin.List.listExtendWith
  refine wpAny_bind (wpAny_typeOf hT ?_)
  rw [if_neg (by rw [h1]; decide)]
  refine wpAny_bind (wpAny_pyIter_revIter (s := { s with heap := g2 }) hit2 ?_)
  refine wpAny_bind (wpAny_holding ?_)
  unfold Builtin.List.listLengthHint
  refine wpAny_bind (wpAny_specialOf hT RT.nolen_lri ?_)
  show wpAny _ _ (specialOf (Value.ref it) (Str.ofString "__length_hint__") >>= _) _ _ _
  refine wpAny_bind (wpAny_specialOf hT RT.hint_lri ?_)
  generalize hid : ("list_reverseiterator.__length_hint__" : String) = id0
  wp_delta
  rw [show splitId id0 = some ("list_reverseiterator", "__length_hint__") from by subst hid; decide +kernel]
  subst hid
  refine wpAny_bind (wpAny_isInstance (b := true) hT (by rw [isSubtype_type]; kernel_rfl) ?_)
  refine wpAny_pure ?_
  rw [if_neg (by decide)]
  have e0 : ((items.size : Nat) : Int) - 1 - ((0 : Nat) : Int) = (items.size : Int) - 1 := by omega
  refine wpAny_pure ⟨plainId_quiet F.plain_extend_loop _, codeAny_extend_loopS W hn _ hSf _ items.size 0 _ _ _ rfl (Nat.zero_le _) ⟨Nat.zero_le _, by rw [e0]; exact hit2, hl2⟩ hS₂ (ItemsOf.nil _) fun s' acc' c' hm hS' hacc => ?_⟩
  refine ⟨rfl, ?_⟩
  rw [Moved.eq_with hm]
  refine hQ s'.heap s'.toks acc' c' (fun b o hb e => hm.heap b o (fun hmem => ?_) (k2 b o (fun z => absurd (Heap.lt_size e) (by rw [z]; exact Nat.lt_irrefl _)) e)) hS' hacc
  rcases List.mem_cons.mp hmem with e' | hmem
  · exact absurd (Heap.lt_size e) (by rw [e']; exact Nat.lt_irrefl _)
  · exact hb (List.mem_singleton.mp hmem)
end
section
open PyProof.Rows
variable {X : Cx} {L : Lo} {W : WX} {F F' : Addr → Prop} {H H' : Hp} {σ : St} {en : SE} {b : Bg}
variable {a c e : Expr} {pos : Pos} {st : Stmt} {f : M D}
def revD : D → Option (Bool × D)
  | .list ds => some (true, .list ds.reverse)
  | _ => none
/-- what is wanted of a value, with what stands around it -/
def Got (L : Lo) (σ : St) (F : Addr → Prop) (H : Hp) (en : SE) (Q : VK) (o : D → Option (Bool × D)) : VK := fun v H1 => ∃ F1 en1 b1 d rr, EO L F1 H1 σ en1 b1 ∧ Rep L.β F1 H1 v d ∧ o d = some rr ∧
  ∀ v' F' H', Stp L σ F1 H1 en1 F' H' en1 → EO L F' H' σ en1 b1 → ResOk L F' H' σ en1 v' rr → ResNew H1 v' rr → Q v' H'
theorem got_of {o : D → Option (Bool × D)} {Q : VK} (h : tX L W (unM o f) σ H Q) : tD L W f σ H (Got L σ (fun _ => False) H [] Q o) := by
  obtain ⟨F, en, b, eo, q⟩ := h
  refine ⟨F, en, b, eo, ?_⟩
  unfold unM M.bind at q
  cases hf : f en b with
  | stuck => rw [hf] at q; exact q
  | exc x en' b' => rw [hf] at q; exact q
  | ok d en1 b1 =>
    rw [hf] at q
    intro v F1 H1 l1 o1 r1
    dsimp only [opt] at q
    cases ho : o d with
    | none => rw [ho] at q; exact q.elim
    | some rr =>
      rw [ho] at q
      exact ⟨F1, en1, b1, d, rr, o1, r1, ho, fun v' F' H' l o r n => q v' F' H' (l1.trans l) o r (n.back l1)⟩
/-- list(reversed(x)), x a list -/
theorem rx_lrev {p p2 q : Pos} (hc : X.calm = true) (ha : RE X L W a f) (hg : Gl X "list") (hm : X.mg "list" = none) (hg2 : Gl X "reversed") (hm2 : X.mg "reversed" = none)
    (hs : starEach [a] X.env = (false, eval a X.env) :: starEach [] X.env := by rfl) (hs2 : starEach [.Call (.Name "reversed" p2) [a] [] q] X.env = (false, eval (.Call (.Name "reversed" p2) [a] [] q) X.env) :: starEach [] X.env := by rfl) :
    RX X L W (.Call (.Name "list" p) [.Call (.Name "reversed" p2) [a] [] q] [] pos) (unM revD f) := by
  refine ⟨fun pins s σ H Q I h => ?_⟩
  refine Call_ (ld_blt I hg hm boot_list (PyProof.Rows.callWith_type1 (args_cons (Call_ (ld_blt I hg2 hm2 PyProof.Rows.boot_reversed (PyProof.Rows.callWith_type1 (args_cons (thn (ha.run pins s σ H _ I (got_of h)) fun u s1 ⟨v, H1, I1, r1, q1⟩ => args_nil ?_) hs) hs rfl))) hs2) hs2 rfl))
  obtain ⟨F1, en1, b1, d, rr, o1, rv, ho, k⟩ := q1
  cases d with
  | list ds =>
    cases ho
    cases rv with
    | @lst ad xs _ hF hH rp =>
      obtain rfl : u = Value.ref ad := r1
      obtain ⟨its, rvs, p', hz⟩ := I1.list (SqL.of hH)
      refine call_reversed_list p'.isList (args_nil ?_)
      have k0 : ∀ b o, s1.heap.get? b = some o → (s1.heap.push (revObj ad ((its.toArray.size : Int) - 1))).get? b = some o := fun b o e => Heap.get?_push_of_some _ e
      have hl := p'.isList
      obtain ⟨ol, hol, _⟩ := id hl
      have hne : ad ≠ s1.heap.objs.size := Nat.ne_of_lt (Heap.lt_size hol)
      have hn : its.toArray.size ≤ sizeLine := by rw [List.size_toArray, ← rvs.length]; exact hz
      refine call_list_rev (s := { s1 with heap := s1.heap.push (revObj ad ((its.toArray.size : Int) - 1)) }) (I1.ok.hd hc) ⟨_, Heap.get?_push_size _ rfl, rfl, rfl⟩ (hl.push _) hne hn fun h' tk acc c' hk hS hi => ?_
      have sz : (s1.heap.push (revObj ad ((its.toArray.size : Int) - 1))).objs.size = s1.heap.objs.size + 1 := Heap.size_push _ _
      have lt : ∀ {b u}, H1 b = some u → b < s1.heap.objs.size := fun e => I1.hok.lt e
      have hp0 : H1 (s1.heap.objs.size + 1) = none := by
        cases z : H1 (s1.heap.objs.size + 1) with
        | none => rfl
        | some u => exact absurd (lt z) (Nat.not_lt.mpr (Nat.le_succ _))
      have keep : ∀ b u, s1.heap.get? b = some u → h'.get? b = some u := fun b u e => hk b u (Nat.ne_of_lt (Heap.lt_size e)) (k0 b u e)
      have I3 : Inv X pins σ (upd H1 (s1.heap.objs.size + 1) (.lst xs.reverse)) { s1 with heap := h', toks := tk } := inv_grown I1 keep (fun b hb => upd_ne (Nat.ne_of_lt (Nat.lt_succ_of_lt hb))) fun b u hb e => by
        by_cases z : b = s1.heap.objs.size + 1
        · subst z
          rw [upd_same] at e
          cases e
          rw [sz] at hS
          exact ⟨by rw [List.length_reverse]; exact hz, acc.toList, c', RT.vals_rev rvs hi, by rw [hS, Array.toArray_toList]⟩
        · rw [upd_ne z] at e
          exact absurd (lt e) (Nat.not_lt.mpr hb)
      rw [sz]
      refine ⟨.ref (s1.heap.objs.size + 1), _, I3, rfl, ?_⟩
      exact newLst (L := L) (σ := σ) o1 hp0 rp.reverse fun g e1 s rk n => k _ _ _ s e1 rk n
  | _ => cases ho
/-- x[::-1], x a list -/
theorem rx_rev1 {k1 : Nat} {p1 p2 p3 : Pos} (ha : RE X L W a f) : RX X L W (.Subscript a (.Slice none none (some (.UnaryOp .USub (.Constant (.int 1) k1 p1) p2)) p3) pos) (unM revD f) := peImp (pe_revL ha) fun σ H Q h => by
  obtain ⟨F, en, b, eo, q⟩ := got_of h
  refine ⟨F, en, b, eo, ?_⟩
  cases hf : f en b with
  | stuck => rw [hf] at q; exact q
  | exc x en' b' => rw [hf] at q; exact q
  | ok d en1 b1 =>
    rw [hf] at q
    intro v F1 H1 l1 o1 r1
    obtain ⟨F2, en2, b2, d, rr, o2, rv, ho, k⟩ := q v F1 H1 l1 o1 r1
    cases d with
    | list ds =>
      cases ho
      cases rv with
      | lst hF hH rp => exact ⟨_, _, rfl, .of hH, fun p hp => newLst o2 hp rp.reverse fun g e1 s rk n => k _ _ _ s e1 rk n⟩
    | _ => cases ho
/-! ### the script, ahead of the bag -/
def onScr {α : Type} (i : Nat) (k : SE → Bg → Out α) : M α := fun en b => match en[i]? with
  | some (some (false, d)) => if isBag d = true ∧ b.scr = true then k en b else .stuck
  | _ => .stuck
def kScr (m : Int) : SE → Bg → Out (Bool × D) := fun en b => .ok (true, .list (cutD (b.cells.map PyData.int) none (some m))) en b
def scrSl (i : Nat) (m : Int) : M (Bool × D) := onScr i (kScr m)
theorem rx_scrSl {i : Nat} {m : Int} {j1 : Nat} {p1 p2 : Pos} (ha : PE X a (tVar i)) : RX X L W (.Subscript a (.Slice none (some (.Constant (.int m) j1 p1)) none p2) pos) (scrSl i m) :=
  peImp (pe_slice sl_list ha (ro_none (L := L) (W := W)) (ro_some (L := L) (W := W) re_int)) fun σ H Q ⟨F, en, b, eo, q⟩ => by
    unfold scrSl onScr at q
    match h : en[i]? with
    | some (some (false, d)) =>
      rw [h] at q
      by_cases hd : isBag d = true ∧ b.scr = true
      · have q' : match kScr m en b with
          | .stuck => False
          | .ok r en' b' => ∀ v F' H', Stp L σ F H en F' H' en' → EO L F' H' σ en' b' → ResOk L F' H' σ en' v r → ResNew H v r → Q v H'
          | .exc x en' b' => ∀ F' H' cls dd, Le F H F' H' → EO L F' H' σ en' b' → L.exr x cls dd H' → W cls dd σ H' := by
          have e : (if isBag d = true ∧ b.scr = true then kScr m en b else .stuck) = kScr m en b := if_pos hd
          rw [← e]
          exact q
        refine ⟨_, eo.bagAt h hd.1, F, en, b, eo, fun F2 H2 l2 o2 => ⟨F2, en, b, o2, fun F3 H3 l3 o3 => ?_⟩⟩
        have out : SqL X.K _ L.β (b.cells.map V.int) := .inl (o3.bg.sc hd.2)
        exact ⟨_, _, rfl, out, fun p hp => newLst o3 hp (cut_rep (L := L) (ints_reps b.cells) none (some m)) fun g e1 s rk n => q' _ _ _ ((l2.trans l3).trans s) e1 rk ((n.back l3).back l2)⟩
      · have e : (if isBag d = true ∧ b.scr = true then kScr m en b else .stuck) = .stuck := if_neg hd
        exfalso
        have q2 : match (if isBag d = true ∧ b.scr = true then kScr m en b else .stuck) with
          | .stuck => False
          | .ok r en' b' => ∀ v F' H', Stp L σ F H en F' H' en' → EO L F' H' σ en' b' → ResOk L F' H' σ en' v r → ResNew H v r → Q v H'
          | .exc x en' b' => ∀ F' H' cls dd, Le F H F' H' → EO L F' H' σ en' b' → L.exr x cls dd H' → W cls dd σ H' := q
        rw [e] at q2
        exact q2
    | some (some (true, _)) => rw [h] at q; exact q.elim
    | some none => rw [h] at q; exact q.elim
    | none => rw [h] at q; exact q.elim
end
end PL
/-! what the head tells, the law's def, the end -/
namespace PL
open PySem PySem.Spec PyProof.Rows L2

/-! ### what the head tells -/
def mkDt (top : Nat → Stmt) (p : Str × Nat) : He.DefD := ⟨(p.1, none), p.1, p.1, defArgs (top p.2), defBody (top p.2), defScope (top p.2), [], []⟩
structure Facts (top : Nat → Stmt) (tab : List (Str × Nat)) (bl : List Str) (gi : List (Str × Int)) (K : PySem.W.Frag) (mg : Str → Option Value) : Prop where
  d : ∀ p ∈ tab, ∃ f fd, mg p.1 = some (.ref f) ∧ FunD K p.1 p.1 (defArgs (top p.2)) (defBody (top p.2)) (defScope (top p.2)) [] [] f fd
  b : ∀ x ∈ bl, mg x = none
  g : ∀ p ∈ gi, ∃ t, mg p.1 = some (.int p.2 t)
def faOf (tab : List (Str × Nat)) (bl : List Str) (gi : List (Str × Int)) : List He.Fa := tab.map (fun p => .glo p.1) ++ (bl.map .free ++ gi.map fun p => .int p.1 p.2)
section
variable {top : Nat → Stmt} {tab : List (Str × Nat)} {bl : List Str} {gi : List (Str × Int)} {K : PySem.W.Frag} {mg : Str → Option Value}
theorem Facts.dAt (c : Facts top tab bl gi K mg) (i : Nat) {p : Str × Nat} (h : tab[i]? = some p) : ∃ f fd, mg p.1 = some (.ref f) ∧ FunD K p.1 p.1 (defArgs (top p.2)) (defBody (top p.2)) (defScope (top p.2)) [] [] f fd := c.d p (List.mem_of_getElem? h)
theorem Facts.bAt (c : Facts top tab bl gi K mg) (i : Nat) {x : Str} (h : bl[i]? = some x) : mg x = none := c.b x (List.mem_of_getElem? h)
theorem Facts.gAt (c : Facts top tab bl gi K mg) (i : Nat) {p : Str × Int} (h : gi[i]? = some p) : ∃ t, mg p.1 = some (.int p.2 t) := c.g p (List.mem_of_getElem? h)
theorem says_fact {fa : List He.Fa} {fn : List He.DefD} (c : He.SaysD fa fn K) {f : He.Fa} (h : f ∈ fa) : f.ok K = true := by
  obtain ⟨i, hi⟩ := List.getElem?_of_mem h
  exact c.fact i hi
theorem facts_of {h : Heap} (c : He.SaysD (faOf tab bl gi) (tab.map (mkDt top)) K) (X : K.In h) (G : h.Ns mainGlobals mg) : Facts top tab bl gi K mg where
  d := fun p hp => by
    obtain ⟨i, hi⟩ := List.getElem?_of_mem hp
    obtain ⟨fd, F⟩ := c.def_ i (d := mkDt top p) (by rw [List.getElem?_map, hi]; rfl)
    exact ⟨_, fd, He.glo_ok X G (says_fact c (List.mem_append_left _ (List.mem_map_of_mem hp))), F⟩
  b := fun x hx => He.free_ok X G (says_fact c (List.mem_append_right _ (List.mem_append_left _ (List.mem_map_of_mem hx))))
  g := fun p hp => He.int_ok X G (says_fact c (List.mem_append_right _ (List.mem_append_right _ (List.mem_map_of_mem (f := fun p => He.Fa.int p.1 p.2) hp))))

/-! ### the written part without one list -/
def cutK (K : PySem.W.Frag) (a : Addr) : PySem.W.Frag := K.filter fun p => p.1 != a
theorem cutK_ne {a c : Addr} (h : c ≠ a) : ∀ K : PySem.W.Frag, (cutK K a).lookup c = K.lookup c
  | [] => rfl
  | (x, o) :: K => by
    unfold cutK
    rw [List.filter_cons]
    by_cases hx : x = a
    · subst hx
      rw [if_neg (by simp), List.lookup_cons, show (c == x) = false from beq_false_of_ne h]
      exact cutK_ne h K
    · rw [if_pos (by simpa using hx), List.lookup_cons, List.lookup_cons]
      cases c == x with
      | true => rfl
      | false => exact cutK_ne h K
theorem cutK_eq {a : Addr} : ∀ K : PySem.W.Frag, (cutK K a).lookup a = none
  | [] => rfl
  | (x, o) :: K => by
    unfold cutK
    rw [List.filter_cons]
    by_cases hx : x = a
    · subst hx
      rw [if_neg (by simp)]
      exact cutK_eq K
    · rw [if_pos (by simpa using hx), List.lookup_cons, show (a == x) = false from beq_false_of_ne (Ne.symm hx)]
      exact cutK_eq K
theorem cutK_in {a : Addr} {h : Heap} (X : K.In h) : (cutK K a).In h := fun c o e => by
  by_cases hc : c = a
  · subst hc
    rw [cutK_eq] at e
    cases e
  · rw [cutK_ne hc] at e
    exact X c o e
theorem FunD.cut {a : Addr} {h : Heap} {its : Array Value} {n : Nat} {x : Str} {params : Arguments} {body : List Stmt} {scope : Scope} {f : Addr} {fd : FuncData} (X : K.In h) (ha : h.get? a = some { cls := .type "list", data := .seq its n })
    (F : FunD K x x params body scope [] [] f fd) : FunD (cutK K a) x x params body scope [] [] f fd := by
  obtain ⟨oc, od, dV, kV, doc, pm, an, cdv, ct, osl, rfl, lk, hcd, hD, hK⟩ := F.ex
  have hf : f ≠ a := fun e => by
    subst e
    have := (X _ _ lk).symm.trans ha
    cases this
  have hc : PySem.W.codeIn (cutK K a) cdv x = true := by
    unfold PySem.W.codeIn at hcd ⊢
    cases cdv with
    | ref c =>
      by_cases hca : c = a
      · subst hca
        exfalso
        dsimp only at hcd
        cases lc : K.lookup c with
        | none => rw [lc] at hcd; cases hcd
        | some o =>
          have e := (X _ _ lc).symm.trans ha
          cases e
          rw [lc] at hcd
          cases hcd
      · dsimp only
        rw [cutK_ne hca]
        exact hcd
    | _ => cases hcd
  refine ⟨⟨oc, od, dV, kV, doc, pm, an, cdv, ct, osl, rfl, by rw [cutK_ne hf]; exact lk, hc, ?_, .inl rfl⟩, ?_⟩
  · rcases hD with hD | ⟨z, _⟩
    · exact .inl hD
    · exact absurd rfl z
  · show PySem.W.keepIn (cutK K a) (.ref f) = true
    unfold PySem.W.keepIn
    dsimp only
    rw [cutK_ne hf, lk]
theorem Facts.cut {a : Addr} {h : Heap} {its : Array Value} {n : Nat} (X : K.In h) (ha : h.get? a = some { cls := .type "list", data := .seq its n }) (c : Facts top tab bl gi K mg) : Facts top tab bl gi (cutK K a) mg where
  d := fun p hp => by
    obtain ⟨f, fd, h1, h2⟩ := c.d p hp
    exact ⟨f, fd, h1, FunD.cut X ha h2⟩
  b := c.b
  g := c.g
end

/-! ### the law's def -/
def spLaw : Sp := fun vs H Q E => ∃ (a : Addr) (ns : List Int) (o : Obj), vs = [.ref a] ∧ ns.length ≤ 63 ∧ H a = some (.frz o (.lst (ns.map V.int))) ∧ ∀ H', Q (.bl true) H'
section
variable {P : Program} {w : World} {K : PySem.W.Frag} {mg : Str → Option Value} {base : Heap} {x qual : Str} {params : Arguments} {body : List Stmt} {scope : Scope} {f : Addr} {fd : FuncData} {N : List Str} {k : Nat}
def noX : ExR := fun _ _ _ _ => False
def lawEn (n : Nat) : SE := none :: some (false, bagD) :: List.replicate (n - 2) none
theorem pssAny {X : Cx} {sts : List Stmt} {ι : Type} {t : ι → TS} (h : ∀ i, PSs X sts (t i)) : PSs X sts (fun Dn σ H => ∃ i, t i Dn σ H) := ⟨fun pins s σ H Dn I ⟨i, q⟩ => (h i).run pins s σ H Dn I q⟩
theorem FnG.law {st : Stmt} {rest : List Stmt} {mB : Fn} {mL : M Fl} (Fd : FunD K x qual params (st :: rest) scope [] [] f fd) (S : FnScope N ["script"] scope) (hN : 2 ≤ N.length)
    (hbody : ∀ (cdv : Value) (A : Around) (outer : List Env) (s : Shared) (H : Hp) (E : XK), Room k (A.deeper (envOfC qual scope s.heap.objs.size f cdv)) → (A.deeper (envOfC qual scope s.heap.objs.size f cdv)).guards = some [] →
      Takes (cxOf (CX P w) P w K mg base N qual scope f cdv A outer s H E) (fun cls d _ H' => E cls d H') → PassesOwn (model P w) (A.deeper (envOfC qual scope s.heap.objs.size f cdv)) (envOfC qual scope s.heap.objs.size f cdv) (cxOf (CX P w) P w K mg base N qual scope f cdv A outer s H E).xe →
      (∀ (H0 : Hp) (F0 : Addr → Prop) (β γ : Addr), RS (cxOf (CX P w) P w K mg base N qual scope f cdv A outer s H E) ⟨K, β, γ, H0, F0, noX⟩ (fun cls d _ H' => E cls d H') st (asgM 1 (callM mB [0] 1 0 (consM (nm 0) (M.ret [])) (M.ret [])))) ∧
      (∀ (H0 : Hp) (F0 : Addr → Prop) (β γ : Addr), RSs (cxOf (CX P w) P w K mg base N qual scope f cdv A outer s H E) ⟨K, β, γ, H0, F0, noX⟩ (fun cls d _ H' => E cls d H') rest mL))
    (hB : ∀ ns : List Int, ns.length ≤ 63 → ∃ (cs : List Int) (m : Int) (b' : Bg), cs.length ≤ 63 ∧ mB [bagD] ⟨ns, 0, 0, true⟩ = .ok (true, .list [.list (cs.map PyData.int), .int 0, .int m]) b')
    (hL : ∀ (cs : List Int) (m : Int), cs.length ≤ 63 → ∃ e b', mL (lawEn N.length) ⟨cs, 0, m, false⟩ = .ok (.rt (false, .bool true)) e b') : FnG P w K mg base (k + 1) f fd ["script"] spLaw := by
  refine .of Fd S (fun vs H Q E ⟨_, _, _, h, _⟩ => by rw [h]; rfl) fun cdv A outer s H vs Q E hr hgd ⟨a, ns, o, ev, hl, ha, q⟩ => ?_
  subst ev
  obtain ⟨h1, h2⟩ := hbody cdv A outer s H E hr hgd (takes_of rfl rfl rfl rfl) (passes_of (X := cxOf (CX P w) P w K mg base N qual scope f cdv A outer s H E) rfl)
  have r1 := h1 H (fun _ => False) a a
  have r2 := pssAny (ι := Hp × Addr × Addr) fun i => h2 i.1 (fun _ => False) i.2.1 i.2.2
  refine ⟨_, pss_cons r1 r2, ?_⟩
  have e0 : EO (⟨K, a, a, H, fun _ => False, noX⟩ : Lo) (fun _ => False) H (L2.start N [V.ref a]) ([bagD].map (fun d => some (false, d)) ++ List.replicate (N.length - [bagD].length) none) ⟨ns, 0, 0, true⟩ :=
    start_EO (L := ⟨K, a, a, H, fun _ => False, noX⟩) rfl rfl (fun _ z => z.elim) (.cons .bag .nil) (BagOk.mk (And.intro (by rw [ha]; simp) (by rw [ha]; simp)) (fun z => Bool.noConfusion z) (fun _ => Or.inr ⟨o, ha⟩))
  obtain ⟨cs, m, b', hcs, em⟩ := hB ns hl
  obtain ⟨el, bl, eL⟩ := hL cs m hcs
  refine ⟨fun _ => False, _, _, e0, ?_⟩
  have hrun : asgM 1 (callM mB [0] 1 0 (consM (nm 0) (M.ret [])) (M.ret [])) ([bagD].map (fun d => some (false, d)) ++ List.replicate (N.length - [bagD].length) none) ⟨ns, 0, 0, true⟩ =
      .ok .nx (([bagD].map (fun d => some (false, d)) ++ List.replicate (N.length - [bagD].length) none).set 1 (some (true, .list [.list (cs.map PyData.int), .int 0, .int m]))) b' := by
    have hc : callM mB [0] 1 0 (consM (nm 0) (M.ret [])) (M.ret []) ([bagD].map (fun d => some (false, d)) ++ List.replicate (N.length - [bagD].length) none) ⟨ns, 0, 0, true⟩ =
        .ok (true, .list [.list (cs.map PyData.int), .int 0, .int m]) ([bagD].map (fun d => some (false, d)) ++ List.replicate (N.length - [bagD].length) none) b' := by
      unfold callM M.bind consM M.bind M.ret nm
      dsimp only [List.map, List.cons_append, List.nil_append, List.getElem?_cons_zero]
      rw [if_pos ⟨rfl, rfl⟩]
      show (match mB (permL [0] ([bagD] ++ [])) ⟨ns, 0, 0, true⟩ with | .stuck => Out.stuck | .ok r b' => Out.ok r _ b' | .exc x b' => Out.exc x _ b') = _
      rw [show permL [0] ([bagD] ++ []) = [bagD] from rfl, em]
    unfold asgM M.bind
    rw [hc]
    dsimp only
    have hlen : 1 < ([bagD].map (fun d => some (false, d)) ++ List.replicate (N.length - [bagD].length) (none : Option (Bool × D))).length := by
      simp only [List.length_append, List.length_map, List.length_replicate, List.length_cons, List.length_nil]
      omega
    unfold setR
    rw [if_pos hlen]
    rfl
  rw [hrun]
  intro σ' F' H' l o1
  obtain ⟨p, hp, w1⟩ := o1.ow 1 (.list [.list (cs.map PyData.int), .int 0, .int m]) (by
    rw [List.getElem?_set_self]
    simp only [List.length_append, List.length_map, List.length_replicate, List.length_cons, List.length_nil]
    omega)
  obtain ⟨xs, hx, rx⟩ := w1.top
  cases rx with
  | @cons v1 _ _ _ g1 t1 =>
    cases t1 with
    | @cons v2 _ _ _ g2 t2 =>
      cases t2 with
      | @cons v3 _ _ _ g3 t3 =>
        cases t3
        cases g2
        cases g3
        cases g1 with
        | @lst qa ys _ fq hq rq =>
          have hys : ys = cs.map V.int := by
            clear hq fq
            revert rq
            generalize cs = cs'
            intro rq
            induction cs' generalizing ys with
            | nil => cases rq; rfl
            | cons c cs' ih =>
              cases rq with
              | cons r t =>
                cases r
                rw [ih t]
                rfl
          subst hys
          have npq : p ≠ qa := fun e => w1.nf (e ▸ fq)
          refine ⟨(H', p, qa), ?_⟩
          have len : (lawEn N.length).length = σ'.length := by
            rw [← o1.len]
            unfold lawEn
            simp only [List.length_set, List.length_append, List.length_map, List.length_replicate, List.length_cons, List.length_nil]
            omega
          have at_ : ∀ (i : Nat) kk d, (lawEn N.length)[i]? = some (some (kk, d)) → i = 1 ∧ kk = false ∧ d = bagD := fun i kk d e => by
            match i, e with
            | 0, e => cases e
            | 1, e => cases e; exact ⟨rfl, rfl, rfl⟩
            | i + 2, e =>
              have e' : (List.replicate (N.length - 2) (none : Option (Bool × D)))[i]? = some (some (kk, d)) := e
              rw [List.getElem?_replicate] at e'
              split at e' <;> cases e'
          refine ⟨fun _ => False, lawEn N.length, ⟨cs, 0, m, false⟩, ⟨fun _ z => z.elim, fun _ _ _ _ => rfl, fun _ z => z, fun _ z => z.elim, len, fun i d e => ?_, fun i d e => ?_, fun i j d d' _ _ e _ _ => ?_, ⟨⟨by rw [hx]; simp, by rw [hq]; simp⟩, fun _ => ⟨npq, hx, hq⟩, fun z => Bool.noConfusion z⟩⟩, ?_⟩
          · obtain ⟨rfl, _, rfl⟩ := at_ _ _ _ e
            exact ⟨_, hp, .bag⟩
          · exact absurd (at_ _ _ _ e).2.1 (by decide)
          · exact absurd (at_ _ _ _ e).2.1 (by decide)
          · rw [eL]
            intro σ2 F2 H2 l2 o2 v rv
            have rv' : Rep p F2 H2 v (.bool true) := rv
            cases rv'
            exact q H2
end
/-! ### the end -/
/-- the script alone is tracked, and stays as it is -/
def onlyH (a : Addr) (o : Obj) (ns : List Int) : Hp := fun c => if c = a then some (.frz o (.lst (ns.map V.int))) else none
theorem onlyH_at {a : Addr} {o : Obj} {ns : List Int} : onlyH a o ns a = some (.frz o (.lst (ns.map V.int))) := if_pos rfl
theorem onlyH_some {a c : Addr} {o : Obj} {ns : List Int} {u : HO} (h : onlyH a o ns c = some u) : c = a ∧ u = .frz o (.lst (ns.map V.int)) := by
  unfold onlyH at h
  split at h
  · next e => exact ⟨e, (Option.some.inj h).symm⟩
  · cases h
theorem law_callG {P : Program} {w : World} {K : PySem.W.Frag} {mg mb : Str → Option Value} {k : Nat} {fa a : Addr} {fd : FuncData} {x : Str} {t : Shared} {vs : List Value} {ns : List Int}
    (kIn : K.In t.heap) (noA : K.lookup a = none) (gNs : t.heap.Ns mainGlobals mg) (bNs : t.heap.Ns builtinsNs mb) (bBoot : ∀ x : Str, x ≠ "__name__" → mb x = bootBuiltins x) (lim : t.heap.NoLimit) (gens : t.gens = #[])
    (obj : t.heap.get? a = some { cls := .type "list", data := .seq vs.toArray }) (hin : IntsAre vs ns) (len : ns.length ≤ 63) (room : Room k callerA)
    (Fg : ∀ base : Heap, FnG P w K mg base k fa fd [x] spLaw) (bind1 : ∀ (s : Shared) (u : Value), BindsTo s fd ⟨[u], []⟩ [(x, u)]) :
    codeAny (model P w) callerA (.call (.ref fa) ⟨[.ref a], []⟩) (fun r u => r = .ok (.ret (.bool true)) ∧ OldK t.heap u.heap ∧ u.os = t.os ∧ AllBare u.gens) t := by
  generalize hH : onlyH a { cls := .type "list", data := .seq vs.toArray } ns = H
  have hAt : H a = some (.frz { cls := .type "list", data := .seq vs.toArray } (.lst (ns.map V.int))) := hH ▸ onlyH_at
  have hSome : ∀ {c u}, H c = some u → c = a ∧ u = .frz { cls := .type "list", data := .seq vs.toArray } (.lst (ns.map V.int)) := fun e => onlyH_some (hH ▸ e)
  have hOk : HOk P w H t.heap := fun c u z => by
    obtain ⟨rfl, rfl⟩ := hSome z
    exact ⟨obj, by rw [List.length_map]; exact Nat.le_trans len (by decide), vs, _, vals_ints hin, obj⟩
  have off : ∀ {c : Addr}, c ≠ a → H c = none := fun {c} hc => by
    cases q : H c with
    | none => rfl
    | some u => exact absurd (hSome q).1 hc
  have keepT : ∀ {c : Addr} {o : Obj}, t.heap.get? c = some o → c ≠ a → (hidT t.heap H).get? c = some o := fun e hc => hidT_get e (off hc)
  have notDict : ∀ {c : Addr} {o : Obj} {es : Array DictEntry} {ep : Nat}, t.heap.get? c = some o → o.data = .dict es ep → c ≠ a := fun e d z => by
    subst z
    rw [obj] at e
    cases e
    cases d
  have nsT : ∀ {c : Addr} {m : Str → Option Value}, t.heap.Ns c m → (hidT t.heap H).Ns c m := fun ⟨o, es, ep, e, d, r⟩ => ⟨o, es, ep, keepT e (notDict e d), d, r⟩
  have kT : K.In (hidT t.heap H) := fun c o e => keepT (kIn c o e) fun z => by
    subst z
    rw [noA] at e
    cases e
  have md : Mod K mg (hidT t.heap H) := ⟨kT, nsT gNs, ⟨mb, nsT bNs, bBoot⟩, let ⟨mc, h1, h2⟩ := lim; ⟨mc, nsT h1, h2⟩⟩
  have none_in : ∀ {c : Addr}, c ∈ ([] : List Addr) → False := fun h => by cases h
  have env0 : Env0 P w K mg (hidT t.heap H) callerA [] t H := ⟨rfl, md, fun c o e => of_hidT e, Nat.le_of_eq (hidT_size _ _), trivial, fun c hc => (none_in hc).elim, hOk, .of_eq gens⟩
  have run := (Fg (hidT t.heap H)).run (args := ⟨[.ref a], []⟩) (us := [.ref a]) (vs := [.ref a]) (Q := fun v _ => v = .bl true) (E := fun _ _ _ => False) room rfl env0 (bind1 t (.ref a)) (.cons rfl .nil) ⟨a, ns, _, rfl, len, hAt, fun _ => rfl⟩
  refine codeAny_mono run fun r u h => ?_
  cases r with
  | error e =>
    obtain ⟨_, _, _, _, _, _, _, _, _, _, _, _, z⟩ := h
    exact z.elim
  | ok fl =>
    cases fl with
    | next => exact False.elim h
    | brk => exact False.elim h
    | cont => exact False.elim h
    | ret z =>
      obtain ⟨v, H', os, bare, un, ok', rz, q⟩ := h
      have q' : v = .bl true := q
      subst q'
      obtain rfl : z = Value.bool true := rz
      refine ⟨rfl, OldK.of_keep fun c o e => ?_, os, bare⟩
      by_cases hc : c = a
      · subst hc
        rw [obj] at e
        cases e
        exact (ok' c _ (un.frzs c _ _ hAt)).1
      · exact un.keep c o e (off hc) (fun z => none_in z) (fun z => none_in z)
theorem walk_G {l : PySem.W.OpenLaw} {k : Nat} {q : Program} {loose : List Str} {XP : (Str → Option Value) → Heap → Prop} {d : DefRec} {top : Nat → Stmt} {tab : List (Str × Nat)} {bl : List Str} {gi : List (Str × Int)} {x : Str}
    (hn : l.most = some 63) (hdf : d.params.defaults = []) (room : Room k callerA)
    (F : ∀ (w : World) (K : PySem.W.Frag) (mg : Str → Option Value) (fa : Addr), Facts top tab bl gi K mg → mg d.name = some (.ref fa) →
      ∃ fd : FuncData, (∀ (s : Shared) (u : Value), BindsTo s fd ⟨[u], []⟩ [(x, u)]) ∧ ∀ base : Heap, FnG l.prog w K mg base k fa fd [x] spLaw) :
    PySem.W.WalkO q loose XP (fun _ h => ∃ K : PySem.W.Frag, K.In h ∧ He.SaysD (faOf tab bl gi) (tab.map (mkDt top)) K) l.row.toRowW d [] (fun f vs => PySem.call f vs) := by
  refine Att.attach_call hn hdf fun w s₀ t mg mb fa o pm cd doc a vs ns G ⟨K, kIn, c⟩ ho hd hcd hmg hobj hints hlen hg => ?_
  obtain ⟨fd, hb, hF⟩ := F w (cutK K a) mg fa ((facts_of c kIn G.T.g).cut kIn hobj) hmg
  exact law_callG (cutK_in kIn) (cutK_eq K) G.T.g G.T.b G.T.builtins G.T.nolimit hg hobj hints hlen room hF hb
end PL
/-! reckoning with mirrors -/
namespace PL
open PySem PySem.Spec PyProof.Rows L2
theorem eqD_i (a b : Int) : eqD (.int a) (.int b) = some (.bool (decide (a = b))) := by
  show (if SeqAt.shaped (.int a) && SeqAt.shaped (.int b) then some (PyData.bool (PyData.eqv (.int a) (.int b))) else none) = _
  rw [if_pos (show (SeqAt.shaped (.int a) && SeqAt.shaped (.int b)) = true from rfl)]
  rfl
theorem neD_i (a b : Int) : neD (.int a) (.int b) = some (.bool (!decide (a = b))) := by
  show (if SeqAt.shaped (.int a) && SeqAt.shaped (.int b) then some (PyData.bool (!PyData.eqv (.int a) (.int b))) else none) = _
  rw [if_pos (show (SeqAt.shaped (.int a) && SeqAt.shaped (.int b)) = true from rfl)]
  rfl
theorem subD_i (a b : Int) : subD (.int a) (.int b) = some (.int (a - b)) := rfl
theorem andD_i (a b : Int) : andD (.int a) (.int b) = some (.int (Builtin.bitAnd a b)) := rfl
theorem orD_i (a b : Int) : orD (.int a) (.int b) = some (.int (Builtin.bitOr a b)) := rfl
theorem xorD_i (a b : Int) : xorD (.int a) (.int b) = some (.int (Builtin.bitXor a b)) := rfl
theorem ltD_i (a b : Int) : ltD (.int a) (.int b) = some (.bool (decide (a < b))) := rfl
theorem leD_i (a b : Int) : leD (.int a) (.int b) = some (.bool (decide (a ≤ b))) := rfl
theorem gtD_i (a b : Int) : gtD (.int a) (.int b) = some (.bool (decide (b < a))) := rfl
theorem geD_i (a b : Int) : geD (.int a) (.int b) = some (.bool (decide (b ≤ a))) := rfl
theorem asB_b (a : Bool) : asB (.bool a) = some a := rfl
theorem addX_i (a b : Int) : addX (.int a) (.int b) = some (false, .int (a + b)) := rfl
theorem modD_i {a b : Int} (h : 0 < b) : modD (.int a) (.int b) = some (.int (a % b)) := by
  show (if decide (0 < b) = true then some (PyData.int (a % b)) else none) = _
  rw [if_pos (decide_eq_true h)]
theorem fdivD_i {a b : Int} (h : 0 < b) (h2 : b.natAbs.log2 < 9000) : fdivD (.int a) (.int b) = some (.int (a / b)) := by
  show (if (decide (0 < b) && decide (b.natAbs.log2 < 9000)) = true then some (PyData.int (a / b)) else none) = _
  rw [if_pos (by simp [h, h2])]
theorem shrD_i {a b : Int} (h : 0 ≤ b) : shrD (.int a) (.int b) = some (.int (a / 2 ^ b.toNat)) := by
  show (if decide (0 ≤ b) = true then some (PyData.int (a / 2 ^ b.toNat)) else none) = _
  rw [if_pos (decide_eq_true h)]
theorem shlD_i {a b : Int} (h : 0 ≤ b) (h2 : b ≤ 1000000) (h3 : a.natAbs < 2 ^ 64) : shlD (.int a) (.int b) = some (.int (a * 2 ^ b.toNat)) := by
  show (if (decide (0 ≤ b) && decide (b ≤ 1000000) && decide (a.natAbs < 2 ^ 64)) = true then some (PyData.int (a * 2 ^ b.toNat)) else none) = _
  rw [if_pos (by simp only [Bool.and_eq_true, decide_eq_true_eq]; exact ⟨⟨h, h2⟩, h3⟩)]
theorem powD_i {a b : Int} (h : 0 ≤ b) (h2 : b ≤ 1000000) (h3 : a.natAbs < 2 ^ 64) : powD (.int a) (.int b) = some (.int (a ^ b.toNat)) := by
  show (if (decide (0 ≤ b) && decide (b ≤ 1000000) && decide (a.natAbs < 2 ^ 64)) = true then some (PyData.int (a ^ b.toNat)) else none) = _
  rw [if_pos (by simp only [Bool.and_eq_true, decide_eq_true_eq]; exact ⟨⟨h, h2⟩, h3⟩)]
theorem mulX_i {a b : Int} (h : mulOk a b = true) : mulX (.int a) (.int b) = some (false, .int (a * b)) := by
  unfold mulX
  simp [h]
theorem absD_i (a : Int) : absD (.int a) = some (false, .int (if a < 0 then -a else a)) := rfl
theorem intD_i (a : Int) : intD (.int a) = some (false, .int a) := by
  first | rfl | (unfold intD; simp)
/-! the bag -/
def Gd (b : Bg) : Prop := b.cells.length ≤ 63 ∧ b.scr = false
theorem onBag_at {α : Type} {k : SE → Bg → Out α} {en : SE} {b : Bg} {i : Nat} (h : b.scr = false) (hi : en[i]? = some (some (false, bagD))) : onBag i k en b = k en b := by
  unfold onBag
  rw [hi]
  show (if isBag bagD = true ∧ b.scr = false then k en b else Out.stuck) = _
  rw [if_pos ⟨rfl, h⟩]
/-! ### loops -/
theorem bind_ok {α β : Type} {m : M α} {k : α → M β} {en e' : SE} {b b' : Bg} {a : α} (h : m en b = .ok a e' b') : (m.bind k) en b = k a e' b' := by
  unfold M.bind
  rw [h]
theorem while_rule {t : M Bool} {f : M Fl} (I : SE → Bg → Prop) (Po : SE → Bg → Prop) (μ : SE → Bg → Nat)
    (step : ∀ en b, I en b → (∃ e1 b1, t en b = .ok false e1 b1 ∧ Po e1 b1) ∨ (∃ e1 b1 e2 b2, t en b = .ok true e1 b1 ∧ f e1 b1 = .ok .nx e2 b2 ∧ I e2 b2 ∧ μ e2 b2 < μ en b)) :
    ∀ (n : Nat) (en : SE) (b : Bg), I en b → μ en b < n → ∃ e' b', whileM n t f en b = .ok .nx e' b' ∧ Po e' b'
  | 0, _, _, _, h => absurd h (Nat.not_lt_zero _)
  | n + 1, en, b, i, h => by
    rcases step en b i with ⟨e1, b1, h1, h2⟩ | ⟨e1, b1, e2, b2, h1, h2, h3, h4⟩
    · refine ⟨e1, b1, ?_, h2⟩
      unfold whileM
      rw [bind_ok h1]
      rfl
    · obtain ⟨e', b', k1, k2⟩ := while_rule I Po μ step n e2 b2 h3 (by omega)
      refine ⟨e', b', ?_, k2⟩
      unfold whileM
      rw [bind_ok h1]
      dsimp only
      rw [bind_ok h2]
      exact k1
theorem runG_ok {g : M Unit} {en e1 : SE} {b b1 : Bg} (h : g en b = .ok () e1 b1) : runG g en b = .ok .nx e1 b1 := by
  unfold runG
  rw [h]
theorem for_rule {g : D → M Unit} {f : M Fl} (I : List D → SE → Bg → Prop) (step : ∀ d ds en b, I (d :: ds) en b → ∃ e1 b1 e2 b2, g d en b = .ok () e1 b1 ∧ f e1 b1 = .ok .nx e2 b2 ∧ I ds e2 b2) :
    ∀ (ds : List D) (en : SE) (b : Bg), I ds en b → ∃ e' b', forM' g f ds en b = .ok .nx e' b' ∧ I [] e' b'
  | [], en, b, h => ⟨en, b, rfl, h⟩
  | d :: ds, en, b, h => by
    obtain ⟨e1, b1, e2, b2, h1, h2, h3⟩ := step d ds en b h
    obtain ⟨e', b', k1, k2⟩ := for_rule I step ds e2 b2 h3
    refine ⟨e', b', ?_, k2⟩
    unfold forM'
    rw [bind_ok (runG_ok h1)]
    rw [bind_ok h2]
    exact k1
/-- a loop that may end by a return -/
theorem for_ruleR {g : D → M Unit} {f : M Fl} (I : List D → SE → Bg → Prop) (Rt : Bool × D → SE → Bg → Prop) (step : ∀ d ds en b, I (d :: ds) en b → ∃ e1 b1 e2 b2, g d en b = .ok () e1 b1 ∧ ((f e1 b1 = .ok .nx e2 b2 ∧ I ds e2 b2) ∨ ∃ r, f e1 b1 = .ok (.rt r) e2 b2 ∧ Rt r e2 b2)) :
    ∀ (ds : List D) (en : SE) (b : Bg), I ds en b → ∃ e' b', (forM' g f ds en b = .ok .nx e' b' ∧ I [] e' b') ∨ ∃ r, forM' g f ds en b = .ok (.rt r) e' b' ∧ Rt r e' b'
  | [], en, b, h => ⟨en, b, .inl ⟨rfl, h⟩⟩
  | d :: ds, en, b, h => by
    obtain ⟨e1, b1, e2, b2, h1, h2⟩ := step d ds en b h
    rcases h2 with ⟨h2, h3⟩ | ⟨r, h2, h3⟩
    · obtain ⟨e', b', k⟩ := for_ruleR I Rt step ds e2 b2 h3
      refine ⟨e', b', ?_⟩
      have e : forM' g f (d :: ds) en b = forM' g f ds e2 b2 := by
        rw [show forM' g f (d :: ds) = (runG (g d)).bind _ from rfl, bind_ok (runG_ok h1)]
        rw [bind_ok h2]
      rw [e]
      exact k
    · refine ⟨e2, b2, .inr ⟨r, ?_, h3⟩⟩
      rw [show forM' g f (d :: ds) = (runG (g d)).bind _ from rfl, bind_ok (runG_ok h1)]
      rw [bind_ok h2]
      rfl
/-- one turn of a comprehension -/
def lcT (g : D → M Unit) (t : M Bool) (el : M D) (acc : List D) (d : D) : M (List D) := (g d).bind fun _ => t.bind fun k => match k with
  | true => el.bind fun y => if acc.length < sizeLine then M.ret (acc ++ [y]) else stk
  | false => M.ret acc
theorem lcGo_rule {vs : List Nat} {g : D → M Unit} {t : M Bool} {el : M D} (I : List D → List D → SE → Bg → Prop)
    (step : ∀ d ds acc en b, I (d :: ds) acc en b → ∃ acc' e' b', lcT g t el acc d (wipeE en vs) b = .ok acc' e' b' ∧ I ds acc' (wipeE e' vs) b') :
    ∀ (ds acc : List D) (en : SE) (b : Bg), I ds acc en b → ∃ acc' e' b', lcGo vs g t el ds acc en b = .ok acc' e' b' ∧ I [] acc' e' b'
  | [], acc, en, b, h => ⟨acc, en, b, rfl, h⟩
  | d :: ds, acc, en, b, h => by
    obtain ⟨acc1, e1, b1, h1, h2⟩ := step d ds acc en b h
    obtain ⟨acc', e', b', k1, k2⟩ := lcGo_rule I step ds acc1 _ b1 h2
    refine ⟨acc', e', b', ?_, k2⟩
    show (M.bind (lcT g t el acc d) _) (wipeE en vs) b = _
    unfold M.bind
    rw [h1]
    exact k1
theorem wipeE_idem (en : SE) (vs : List Nat) : wipeE (wipeE en vs) vs = wipeE en vs := by
  apply List.ext_getElem?
  intro i
  by_cases hi : i ∈ vs
  · have a : ∀ e : SE, e.length = en.length → (wipeE e vs)[i]? = if i < en.length then some none else none := fun e he => by
      by_cases hl : i < en.length
      · rw [if_pos hl]
        have hl2 : i < (wipeE e vs).length := by rw [wipeE_length, he]; exact hl
        rw [List.getElem?_eq_getElem hl2]
        cases z : (wipeE e vs)[i] with
        | none => rfl
        | some x => exact absurd (by rw [List.getElem?_eq_getElem hl2, z]) (wipeE_in e (x := x) hi)
      · rw [if_neg hl]
        exact List.getElem?_eq_none (by rw [wipeE_length, he]; omega)
    rw [a _ (wipeE_length _ _), a _ rfl]
  · rw [wipeE_get _ hi, wipeE_get _ hi]
/-- a comprehension that changes no name and no bag: each item told by a function -/
theorem lcM_pure {vs : List Nat} {it : M (List D)} {g : D → M Unit} {t : M Bool} {el : M D} {en : SE} {b : Bg} {ds : List D} {e0 : SE} (hit : it en b = .ok ds e0 b) (φ : D → Option D)
    (h : ∀ d ∈ ds, ∃ e1, wipeE e1 vs = wipeE e0 vs ∧ ∃ e2 k, g d (wipeE e0 vs) b = .ok () e1 b ∧ t e1 b = .ok k e2 b ∧ wipeE e2 vs = wipeE e0 vs ∧ ((k = false ∧ φ d = none) ∨ (k = true ∧ ∃ y e3, φ d = some y ∧ el e2 b = .ok y e3 b ∧ wipeE e3 vs = wipeE e0 vs)))
    (hl : ds.length ≤ sizeLine) : lcM vs it g t el en b = .ok (true, .list (ds.filterMap φ)) (mrgE e0 (wipeE e0 vs) vs) b := by
  have key : ∀ (ds' acc : List D), (∀ d ∈ ds', d ∈ ds) → acc.length + ds'.length ≤ sizeLine → lcGo vs g t el ds' acc (wipeE e0 vs) b = .ok (acc ++ ds'.filterMap φ) (wipeE e0 vs) b := by
    intro ds'
    induction ds' with
    | nil => intro acc _ _; simp [lcGo, M.ret]
    | cons d ds' ih =>
      intro acc hm hz
      obtain ⟨e1, w1, e2, k, h1, h2, w2, h3⟩ := h d (hm d (List.mem_cons_self ..))
      have hm' : ∀ x ∈ ds', x ∈ ds := fun x hx => hm x (List.mem_cons_of_mem _ hx)
      rw [List.length_cons] at hz
      show (M.bind (lcT g t el acc d) _) (wipeE (wipeE e0 vs) vs) b = _
      rw [wipeE_idem]
      have turn : ∀ acc' e', lcT g t el acc d (wipeE e0 vs) b = .ok acc' e' b → M.bind (lcT g t el acc d) (fun acc' en' b' => lcGo vs g t el ds' acc' (wipeE en' vs) b') (wipeE e0 vs) b = lcGo vs g t el ds' acc' (wipeE e' vs) b := fun acc' e' z => by
        unfold M.bind
        rw [z]
      rcases h3 with ⟨rfl, hφ⟩ | ⟨rfl, y, e3, hφ, h4, w3⟩
      · rw [turn acc e2 (by unfold lcT M.bind; rw [h1]; dsimp only; rw [h2]; rfl), w2, ih acc hm' (by omega), List.filterMap_cons, hφ]
      · rw [turn (acc ++ [y]) e3 (by
          unfold lcT M.bind; rw [h1]; dsimp only; rw [h2]; dsimp only
          rw [h4]; dsimp only
          rw [if_pos (by omega)]; rfl), w3, ih (acc ++ [y]) hm' (by rw [List.length_append]; simp only [List.length_cons, List.length_nil]; omega), List.filterMap_cons, hφ]
        simp
  unfold lcM M.bind
  rw [hit]
  dsimp only
  rw [key ds [] (fun _ h => h) (by simpa using hl)]
  rfl
/-- runs of a mirror: what a def does -/
theorem fnM_ok {n N : Nat} {body : M Fl} {ds : List D} {b b' : Bg} {e' : SE} {r : Bool × D} (hn : ds.length = n) (h : body (ds.map (fun d => some (false, d)) ++ List.replicate (N - n) none) b = .ok (.rt r) e' b') : fnM n N body ds b = .ok r b' := by
  unfold fnM
  rw [if_pos hn, h]
theorem seq_ok {f g : M Fl} {en e' : SE} {b b' : Bg} (h : f en b = .ok .nx e' b') : seqM f g en b = g e' b' := by
  unfold seqM
  rw [bind_ok h]
theorem seq_rt {f g : M Fl} {en e' : SE} {b b' : Bg} {r : Bool × D} (h : f en b = .ok (.rt r) e' b') : seqM f g en b = .ok (.rt r) e' b' := by
  unfold seqM
  rw [bind_ok h]
  rfl
theorem if_ok {t : M Bool} {f g : M Fl} {en e' : SE} {b b' : Bg} {k : Bool} (h : t en b = .ok k e' b') : ifM t f g en b = (match k with | true => f | false => g) e' b' := by
  unfold ifM
  rw [bind_ok h]
  all_goals (cases k <;> rfl)
theorem asg_ok {i : Nat} {f : M (Bool × D)} {en e' : SE} {b b' : Bg} {r : Bool × D} (h : f en b = .ok r e' b') (hi : i < e'.length) : asgM i f en b = .ok .nx (e'.set i (some r)) b' := by
  unfold asgM
  rw [bind_ok h]
  exact bind_ok (show setR i r e' b' = .ok () (e'.set i (some r)) b' from if_pos hi)
theorem loop_ok {it : M (List D)} {g : D → M Unit} {f : M Fl} {en e' : SE} {b b' : Bg} {ds : List D} (h : it en b = .ok ds e' b') : loopM it g f en b = forM' g f ds e' b' := by
  unfold loopM
  rw [bind_ok h]
theorem ret_ok {f : M (Bool × D)} {en e' : SE} {b b' : Bg} {r : Bool × D} (h : f en b = .ok r e' b') : retM f en b = .ok (.rt r) e' b' := by
  unfold retM
  rw [bind_ok h]
  rfl
theorem call_ok {m : Fn} {pm : List Nat} {n kn : Nat} {f g : M (List D)} {en e1 e2 : SE} {b b1 b2 b3 : Bg} {xs zs : List D} {r : Bool × D} (h1 : f en b = .ok xs e1 b1) (h2 : g e1 b1 = .ok zs e2 b2) (hl : xs.length = n ∧ zs.length = kn) (h : m (permL pm (xs ++ zs)) b2 = .ok r b3) : callM m pm n kn f g en b = .ok r e2 b3 := by
  unfold callM
  refine (bind_ok h1).trans ((bind_ok h2).trans ?_)
  show (if xs.length = n ∧ zs.length = kn then match m (permL pm (xs ++ zs)) b2 with | .stuck => .stuck | .ok r b' => .ok r e2 b' | .exc x b' => .exc x e2 b' else .stuck) = Out.ok r e2 b3
  rw [if_pos hl, h]
theorem if_sz {α : Type} {n : Nat} {a b : α} (h : n ≤ 4000) : (if n ≤ sizeLine then a else b) = a := if_pos (Nat.le_trans h (by decide))
theorem if_szL {α : Type} {n : Nat} {a b : α} (h : n < 4000) : (if n < sizeLine then a else b) = a := if_pos (Nat.lt_of_lt_of_le h (by decide))
/-! whole numbers from nought on -/
theorem lit0 : (0 : Int) = ((0 : Nat) : Int) := rfl
theorem lit1 : (1 : Int) = ((1 : Nat) : Int) := rfl
theorem lit2 : (2 : Int) = ((2 : Nat) : Int) := rfl
theorem lit3 : (3 : Int) = ((3 : Nat) : Int) := rfl
theorem lit6 : (6 : Int) = ((6 : Nat) : Int) := rfl
theorem eqD_n (a b : Nat) : eqD (.int (a : Int)) (.int (b : Int)) = some (.bool (decide (a = b))) := by
  rw [eqD_i]
  congr 2
  exact decide_eq_decide.mpr Int.ofNat_inj
theorem neD_n (a b : Nat) : neD (.int (a : Int)) (.int (b : Int)) = some (.bool (!decide (a = b))) := by
  rw [neD_i]
  congr 3
  exact decide_eq_decide.mpr Int.ofNat_inj
theorem ltD_n (a b : Nat) : ltD (.int (a : Int)) (.int (b : Int)) = some (.bool (decide (a < b))) := by
  rw [ltD_i]
  congr 2
  exact decide_eq_decide.mpr Int.ofNat_lt
theorem leD_n (a b : Nat) : leD (.int (a : Int)) (.int (b : Int)) = some (.bool (decide (a ≤ b))) := by
  rw [leD_i]
  congr 2
  exact decide_eq_decide.mpr Int.ofNat_le
theorem gtD_n (a b : Nat) : gtD (.int (a : Int)) (.int (b : Int)) = some (.bool (decide (b < a))) := by
  rw [gtD_i]
  congr 2
  exact decide_eq_decide.mpr Int.ofNat_lt
theorem geD_n (a b : Nat) : geD (.int (a : Int)) (.int (b : Int)) = some (.bool (decide (b ≤ a))) := by
  rw [geD_i]
  congr 2
  exact decide_eq_decide.mpr Int.ofNat_le
theorem xorAnd : ∀ a b : Nat, (a ^^^ b) + 2 * (a &&& b) = a + b := by
  intro a
  induction a using Nat.strongRecOn with
  | _ a ih =>
    intro b
    by_cases ha : a = 0
    · subst ha; simp
    · have h := ih (a / 2) (by omega) (b / 2)
      have o1 := @Nat.xor_div_two a b
      have o2 := @Nat.and_div_two a b
      have m1 : (a ^^^ b) % 2 = (a % 2) ^^^ (b % 2) := by simpa using @Nat.xor_mod_two_pow a b 1
      have m2 : (a &&& b) % 2 = (a % 2) &&& (b % 2) := by simpa using @Nat.and_mod_two_pow a b 1
      have k : ∀ x, x < 2 → ∀ y, y < 2 → (x ^^^ y) + 2 * (x &&& y) = x + y := by decide
      have k' := k (a % 2) (by omega) (b % 2) (by omega)
      rw [← o1, ← o2] at h
      rw [← m1, ← m2] at k'
      omega
theorem bitAnd_n (a b : Nat) : Builtin.bitAnd (a : Int) (b : Int) = ((a &&& b : Nat) : Int) := by
  simp [Builtin.bitAnd]
theorem bitOr_n (a b : Nat) : Builtin.bitOr (a : Int) (b : Int) = ((a ||| b : Nat) : Int) := by
  rw [bitOr_and, bitAnd_n]
  have := nat_or_add_and a b
  omega
theorem bitXor_n (a b : Nat) : Builtin.bitXor (a : Int) (b : Int) = ((a ^^^ b : Nat) : Int) := by
  unfold Builtin.bitXor
  rw [bitOr_and, bitAnd_n]
  have := xorAnd a b
  omega
theorem andD_n (a b : Nat) : andD (.int (a : Int)) (.int (b : Int)) = some (.int ((a &&& b : Nat) : Int)) := by
  rw [andD_i, bitAnd_n]
theorem xorD_n (a b : Nat) : xorD (.int (a : Int)) (.int (b : Int)) = some (.int ((a ^^^ b : Nat) : Int)) := by
  rw [xorD_i, bitXor_n]
theorem orD_n (a b : Nat) : orD (.int (a : Int)) (.int (b : Int)) = some (.int ((a ||| b : Nat) : Int)) := by
  rw [orD_i, bitOr_n]
theorem shrD_n (a b : Nat) : shrD (.int (a : Int)) (.int (b : Int)) = some (.int ((a >>> b : Nat) : Int)) := by
  rw [shrD_i (Int.natCast_nonneg b), Int.toNat_natCast, Nat.shiftRight_eq_div_pow]
  simp
theorem shlD_n {a b : Nat} (h : b ≤ 1000000) (h2 : a < 2 ^ 64) : shlD (.int (a : Int)) (.int (b : Int)) = some (.int ((a <<< b : Nat) : Int)) := by
  rw [shlD_i (Int.natCast_nonneg b) (by omega) (by simpa using h2), Int.toNat_natCast, Nat.shiftLeft_eq]
  simp
theorem subD_n {a b : Nat} (h : b ≤ a) : subD (.int (a : Int)) (.int (b : Int)) = some (.int ((a - b : Nat) : Int)) := by
  rw [subD_i]
  congr 2
  omega
theorem addX_n (a b : Nat) : addX (.int (a : Int)) (.int (b : Int)) = some (false, .int ((a + b : Nat) : Int)) := by
  rw [addX_i]
  simp
theorem mulX_n {a b : Nat} (h : a < 2 ^ 64) : mulX (.int (a : Int)) (.int (b : Int)) = some (false, .int ((a * b : Nat) : Int)) := by
  rw [mulX_i (by unfold mulOk; simp only [decide_eq_true_eq]; left; omega)]
  simp
theorem modD_n {a b : Nat} (h : 0 < b) : modD (.int (a : Int)) (.int (b : Int)) = some (.int ((a % b : Nat) : Int)) := by
  rw [modD_i (by omega)]
  simp
theorem fdivD_n {a b : Nat} (h : 0 < b) (h2 : b < 2 ^ 64) : fdivD (.int (a : Int)) (.int (b : Int)) = some (.int ((a / b : Nat) : Int)) := by
  rw [fdivD_i (by omega) (by
    rw [Int.natAbs_natCast]
    have : b.log2 < 64 := (Nat.log2_lt (by omega)).mpr h2
    omega)]
  simp
theorem atI_n {α : Type} {xs : List α} {i : Nat} {x : α} (h : xs[i]? = some x) : atI xs ((i : Nat) : Int) = some x := by
  have hl : i < xs.length := (List.getElem?_eq_some_iff.mp h).1
  unfold atI ixN
  rw [if_pos (Int.natCast_nonneg i), if_pos (by omega)]
  simpa using h
theorem ixT_n {xs : List D} {i : Nat} {x : D} (h : xs[i]? = some x) : ixD (.tuple xs) (.int ((i : Nat) : Int)) = some x := atI_n h
theorem ixL_n {xs : List D} {i : Nat} {x : D} (h : xs[i]? = some x) : ixD (.list xs) (.int ((i : Nat) : Int)) = some x := atI_n h
def nI (x : Nat) : D := .int (x : Int)
def nL (xs : List Nat) : D := .list (xs.map nI)
def nT (xs : List Nat) : D := .tuple (xs.map nI)
theorem intsOf_n (xs : List Nat) : intsOf (xs.map nI) = some (xs.map fun x : Nat => (x : Int)) := by
  induction xs with
  | nil => rfl
  | cons x xs ih =>
    show (intsOf (PyData.int (x : Int) :: xs.map nI)) = _
    unfold intsOf
    rw [ih]
    rfl
theorem sumD_n (xs : List Nat) : sumD (nL xs) = some (false, nI xs.sum) := by
  unfold sumD nL
  dsimp only
  rw [intsOf_n]
  show some (false, PyData.int (xs.map fun x : Nat => (x : Int)).sum) = _
  congr 3
  induction xs with
  | nil => rfl
  | cons x xs ih => simp [ih]
/-! one step each -/
section
variable {α β : Type} {en e1 e2 e3 : SE} {b b1 b2 b3 : Bg}
theorem fz_ok {f : M (Bool × D)} {r : Bool × D} (h : f en b = .ok r e1 b1) : fz f en b = .ok r.2 e1 b1 := by
  unfold fz
  rw [bind_ok h]
  rfl
theorem fr_ok {f : M D} {r : D} (h : f en b = .ok r e1 b1) : fr f en b = .ok (false, r) e1 b1 := by
  unfold fr
  rw [bind_ok h]
  rfl
theorem seqW_ok {f : M D} {d : D} {ds : List D} (h : f en b = .ok d e1 b1) (hs : seqD d = some ds) : seqW f en b = .ok ds e1 b1 := by
  unfold seqW
  rw [bind_ok h, hs]
  rfl
theorem un_ok {o : D → Option (Bool × D)} {f : M D} {d : D} {r : Bool × D} (h : f en b = .ok d e1 b1) (ho : o d = some r) : unM o f en b = .ok r e1 b1 := by
  unfold unM
  rw [bind_ok h, ho]
  rfl
theorem bin_ok {o : D → D → Option (Bool × D)} {f g : M D} {x y : D} {r : Bool × D} (h : f en b = .ok x e1 b1) (h2 : g e1 b1 = .ok y e2 b2) (ho : o x y = some r) : binM o f g en b = .ok r e2 b2 := by
  unfold binM
  rw [bind_ok h]
  refine (bind_ok h2).trans ?_
  rw [ho]
  rfl
theorem binD_ok {o : D → D → Option D} {f g : M D} {x y r : D} (h : f en b = .ok x e1 b1) (h2 : g e1 b1 = .ok y e2 b2) (ho : o x y = some r) : binD o f g en b = .ok r e2 b2 := by
  unfold binD
  rw [bind_ok h]
  refine (bind_ok h2).trans ?_
  rw [ho]
  rfl
theorem bol_ok {f : M D} {k : Bool} (h : f en b = .ok (.bool k) e1 b1) : bolM f en b = .ok k e1 b1 := by
  unfold bolM
  rw [bind_ok h]
  rfl
theorem tru_ok {f : M D} {d : D} {k : Bool} (h : f en b = .ok d e1 b1) (hk : truD d = some k) : truM f en b = .ok k e1 b1 := by
  unfold truM
  rw [bind_ok h, hk]
  rfl
theorem tup_ok {g : M (List D)} {ds : List D} (h : g en b = .ok ds e1 b1) (hz : ds.length ≤ 4000) : tupM g en b = .ok (.tuple ds) e1 b1 := by
  unfold tupM
  rw [bind_ok h]
  show (if ds.length ≤ sizeLine then M.ret (PyData.tuple ds) else stk) e1 b1 = _
  rw [if_sz hz]
  rfl
theorem lst_ok {g : M (List D)} {ds : List D} (h : g en b = .ok ds e1 b1) (hz : ds.length ≤ 4000) : lstM g en b = .ok (true, .list ds) e1 b1 := by
  unfold lstM
  rw [bind_ok h]
  show (if ds.length ≤ sizeLine then M.ret (true, PyData.list ds) else stk) e1 b1 = _
  rw [if_sz hz]
  rfl
theorem cons_ok {f : M D} {g : M (List D)} {d : D} {ds : List D} (h : f en b = .ok d e1 b1) (h2 : g e1 b1 = .ok ds e2 b2) : consM f g en b = .ok (d :: ds) e2 b2 := by
  unfold consM
  rw [bind_ok h]
  refine (bind_ok h2).trans ?_
  rfl
theorem consR_ok {f : M (Bool × D)} {g : M (List (Bool × D))} {d : Bool × D} {ds : List (Bool × D)} (h : f en b = .ok d e1 b1) (h2 : g e1 b1 = .ok ds e2 b2) : consR f g en b = .ok (d :: ds) e2 b2 := by
  unfold consR
  rw [bind_ok h]
  refine (bind_ok h2).trans ?_
  rfl
theorem ixNm_ok {i : Nat} {g : M D} {x y r : D} {k k2 : Bool} {z : D} (h0 : en[i]? = some (some (k2, z))) (h : g en b = .ok y e1 b1) (hi : e1[i]? = some (some (k, x))) (ho : ixD x y = some r) : ixNm i g en b = .ok r e1 b1 := by
  unfold ixNm
  rw [bind_ok (pk_some h0)]
  refine (bind_ok h).trans ?_
  refine (bind_ok (pk_some hi)).trans ?_
  rw [ho]
  rfl
theorem ite_ok {t : M Bool} {f g : M α} {k : Bool} (h : t en b = .ok k e1 b1) : iteM t f g en b = (match k with | true => f | false => g) e1 b1 := by
  unfold iteM
  rw [bind_ok h]
  all_goals (cases k <;> rfl)
theorem and_ok {f g : M Bool} {k : Bool} (h : f en b = .ok k e1 b1) : PL.andM f g en b = (match k with | true => g | false => M.ret false) e1 b1 := by
  unfold PL.andM
  rw [bind_ok h]
  all_goals (cases k <;> rfl)
theorem or_ok {f g : M Bool} {k : Bool} (h : f en b = .ok k e1 b1) : PL.orM f g en b = (match k with | true => M.ret true | false => g) e1 b1 := by
  unfold PL.orM
  rw [bind_ok h]
  all_goals (cases k <;> rfl)
theorem not_ok {f : M Bool} {k : Bool} (h : f en b = .ok k e1 b1) : PL.notM f en b = .ok (!k) e1 b1 := by
  unfold PL.notM
  rw [bind_ok h]
  rfl
theorem drop_ok {f : M D} {d : D} (h : f en b = .ok d e1 b1) : dropM f en b = .ok .nx e1 b1 := by
  unfold dropM
  rw [bind_ok h]
  rfl
/-- f(x), f(x, y), .. with pure arguments -/
theorem callP {m : Fn} {pm : List Nat} {n : Nat} {f : M (List D)} {xs : List D} {r : Bool × D} (h1 : f en b = .ok xs e1 b1) (hl : xs.length = n) (h : m (permL pm xs) b1 = .ok r b2) : callM m pm n 0 f (M.ret []) en b = .ok r e1 b2 :=
  call_ok (zs := []) (e2 := e1) (b2 := b1) h1 rfl ⟨hl, rfl⟩ (by rw [List.append_nil]; exact h)
theorem callKw {m : Fn} {pm : List Nat} {n : Nat} {f : M (List D)} {xs : List D} {r : Bool × D} (h1 : f en b = .ok xs e1 b1) (hl : xs.length = n) (h : m (permL pm xs) b1 = .ok r b2) : callM m pm 0 n (M.ret []) f en b = .ok r e1 b2 :=
  call_ok (xs := []) (zs := xs) (e1 := en) (b1 := b) rfl h1 ⟨rfl, hl⟩ (by rw [List.nil_append]; exact h)
end
/-- a comprehension over a list told by l: what is taken by q, told by g; vs: the block's own slots; s: their values -/
theorem lcM_map {α : Type} {vs : List Nat} {it : M (List D)} {gt : D → M Unit} {t : M Bool} {el : M D} {en e0 : SE} {b : Bg} {l : List α} {enc : α → D} (q : α → Bool) (g : α → D) (hit : it en b = .ok (l.map enc) e0 b) (hl : l.length ≤ 4000)
    (h : ∀ x ∈ l, ∃ e1 e2, gt (enc x) (wipeE e0 vs) b = .ok () e1 b ∧ t e1 b = .ok (q x) e2 b ∧ wipeE e2 vs = wipeE e0 vs ∧ (q x = true → ∃ e3, el e2 b = .ok (g x) e3 b ∧ wipeE e3 vs = wipeE e0 vs)) :
    lcM vs it gt t el en b = .ok (true, .list ((l.filter q).map g)) (mrgE e0 (wipeE e0 vs) vs) b := by
  have key : ∀ (l' : List α) (acc : List D), (∀ x ∈ l', x ∈ l) → acc.length + l'.length ≤ 4000 → lcGo vs gt t el (l'.map enc) acc (wipeE e0 vs) b = .ok (acc ++ (l'.filter q).map g) (wipeE e0 vs) b := by
    intro l'
    induction l' with
    | nil => intro acc _ _; simp [lcGo, M.ret]
    | cons x l' ih =>
      intro acc hm hz
      obtain ⟨e1, e2, h1, h2, w2, h3⟩ := h x (hm x (List.mem_cons_self ..))
      have hm' : ∀ y ∈ l', y ∈ l := fun y hy => hm y (List.mem_cons_of_mem _ hy)
      rw [List.length_cons] at hz
      show (M.bind (lcT gt t el acc (enc x)) _) (wipeE (wipeE e0 vs) vs) b = _
      rw [wipeE_idem]
      have turn : ∀ acc' e', lcT gt t el acc (enc x) (wipeE e0 vs) b = .ok acc' e' b → M.bind (lcT gt t el acc (enc x)) (fun acc' en' b' => lcGo vs gt t el (l'.map enc) acc' (wipeE en' vs) b') (wipeE e0 vs) b = lcGo vs gt t el (l'.map enc) acc' (wipeE e' vs) b := fun acc' e' z => by
        unfold M.bind
        rw [z]
      rw [List.filter_cons]
      cases hq : q x with
      | false =>
        rw [hq] at h2
        rw [turn acc e2 (by unfold lcT M.bind; rw [h1]; dsimp only; rw [h2]; rfl), w2, ih acc hm' (by omega), if_neg Bool.false_ne_true]
      | true =>
        rw [hq] at h2
        obtain ⟨e3, h4, w3⟩ := h3 hq
        rw [turn (acc ++ [g x]) e3 (by
          unfold lcT M.bind; rw [h1]; dsimp only; rw [h2]; dsimp only
          rw [h4]; dsimp only
          rw [if_szL (by omega)]; rfl), w3, ih (acc ++ [g x]) hm' (by rw [List.length_append]; simp only [List.length_cons, List.length_nil]; omega), if_pos rfl]
        simp
  unfold lcM M.bind
  rw [hit]
  dsimp only
  rw [key l [] (fun _ h => h) (by simpa using hl)]
  rfl
theorem rgL_n (n : Nat) : rgL 0 n = (List.range n).map nI := by
  unfold rgL nI
  simp
theorem rgD_n (n : Nat) : rgD 0 (n : Int) = (List.range n).map nI := by
  unfold rgD nI
  simp
theorem rg1_ok {f : M (List D)} {en e1 : SE} {b b1 : Bg} {n : Nat} (h : f en b = .ok [nI n] e1 b1) (hn : n ≤ 4000) : rg1W f en b = .ok ((List.range n).map nI) e1 b1 := by
  unfold rg1W
  rw [bind_ok h]
  show (if small62 (n : Int) then M.ret (rgL 0 (n : Int).toNat) else stk) e1 b1 = _
  rw [if_pos (by unfold small62; simp only [Bool.and_eq_true, decide_eq_true_eq]; omega), Int.toNat_natCast, rgL_n]
  rfl
theorem lrg_ok {f : M D} {en e1 : SE} {b b1 : Bg} {n : Nat} (h : f en b = .ok (nI n) e1 b1) (hn : n ≤ 4000) : lrgM f en b = .ok (true, .list ((List.range n).map nI)) e1 b1 := by
  unfold lrgM
  rw [bind_ok h]
  show (if rgOk 0 (n : Int) then M.ret (true, PyData.list (rgD 0 (n : Int))) else stk) e1 b1 = _
  rw [if_pos (by unfold rgOk; simp only [Bool.and_eq_true, decide_eq_true_eq]; omega), rgD_n]
  rfl
theorem par_ok {is : List Nat} {f : M (List (Bool × D))} {en e1 : SE} {b b1 : Bg} {rs : List (Bool × D)} (h : f en b = .ok rs e1 b1) (hc : is.length = rs.length ∧ ∀ i ∈ is, i < e1.length) : parM is f en b = .ok .nx (setsE e1 is rs) b1 := by
  unfold parM
  refine (bind_ok h).trans ?_
  show (if is.length = rs.length ∧ ∀ i ∈ is, i < e1.length then Out.ok Fl.nx (setsE e1 is rs) b1 else .stuck) = _
  rw [if_pos hc]
theorem arg_ok {o : List D → Option (Bool × D)} {f : M (List D)} {en e1 : SE} {b b1 : Bg} {ds : List D} {r : Bool × D} (h : f en b = .ok ds e1 b1) (ho : o ds = some r) : argM o f en b = .ok r e1 b1 := by
  unfold argM
  rw [bind_ok h, ho]
  rfl
theorem min_n (a c : Nat) : mm2 min2 [nI a, nI c] = some (false, nI (min a c)) := by
  show some (false, PyData.int (if (c : Int) < (a : Int) then (c : Int) else (a : Int))) = _
  unfold nI
  congr 3
  rw [Nat.min_def]
  split <;> split <;> omega
theorem max_n (a c : Nat) : mm2 max2 [nI a, nI c] = some (false, nI (max a c)) := by
  show some (false, PyData.int (if (c : Int) > (a : Int) then (c : Int) else (a : Int))) = _
  unfold nI
  congr 3
  rw [Nat.max_def]
  split <;> split <;> omega
end PL
/-! more of the data layer: chains, in, isinstance, sorted, remove, tuple(range) -/
namespace PL
open PySem PySem.Spec PyProof.Rows L2
variable {X : Cx} {L : Lo} {W : WX} {F F' : Addr → Prop} {H H' : Hp} {σ : St} {en : SE} {b : Bg}
variable {a c c2 e : Expr} {pos p : Pos} {st : Stmt}
section
variable {f g h : M D}
/-! ### a op b op c -/
def chainM (o1 o2 : D → D → Option D) (f g h : M D) : M D := f.bind fun x => g.bind fun y => (opt (o1 x y)).bind fun r => match r with
  | .bool true => h.bind fun z => opt (o2 y z)
  | .bool false => M.ret (.bool false)
  | _ => stk
theorem chain_t {r r' : R2} {o1 o2 : D → D → Option D} (h1 : BinD L r o1) (h2 : BinD L r' o2) {σ : St} {H : Hp} {Q : VK} (k : tD L W (chainM o1 o2 f g h) σ H Q) : tChain r r' (tD L W f) (tD L W g) (tD L W h) σ H Q := by
  obtain ⟨F, en, b, eo, q⟩ := k
  refine ⟨F, en, b, eo, ?_⟩
  unfold chainM M.bind at q
  cases hf : f en b with
  | stuck => rw [hf] at q; exact q
  | exc x en' b' => rw [hf] at q; exact q
  | ok dx en' b' =>
    rw [hf] at q
    intro x F' H' l eo' rx
    refine ⟨F', en', b', eo', ?_⟩
    dsimp only at q
    cases hg : g en' b' with
    | stuck => rw [hg] at q; exact q
    | exc x en2 b2 =>
      rw [hg] at q
      exact fun F2 H2 cls dd l2 o2 x2 => q F2 H2 cls dd (l.le.trans l2) o2 x2
    | ok dy en2 b2 =>
      rw [hg] at q
      intro y F2 H2 l2 eo2 ry
      dsimp only [opt] at q
      cases ho : o1 dx dy with
      | none => rw [ho] at q; exact q.elim
      | some rr =>
        rw [ho] at q
        dsimp only at q
        refine h1 F2 H2 x y dx dy rr _ (rx.mono l2.le) ry ho fun v rv => ?_
        cases rr with
        | bool k =>
          cases rv
          refine ⟨k, rfl, ?_⟩
          cases k with
          | false =>
            rw [if_neg Bool.false_ne_true]
            exact q _ F2 H2 (l.trans l2) eo2 (.bl _)
          | true =>
            rw [if_pos rfl]
            refine ⟨F2, en2, b2, eo2, ?_⟩
            dsimp only at q
            cases hh : h en2 b2 with
            | stuck => rw [hh] at q; exact q
            | exc x en3 b3 =>
              rw [hh] at q
              exact fun F3 H3 cls dd l3 o3 x3 => q F3 H3 cls dd ((l.trans l2).le.trans l3) o3 x3
            | ok dz en3 b3 =>
              rw [hh] at q
              intro z F3 H3 l3 eo3 rz
              dsimp only at q
              cases ho2 : o2 dy dz with
              | none => rw [ho2] at q; exact q.elim
              | some r2 =>
                rw [ho2] at q
                exact h2 F3 H3 y z dy dz r2 _ (ry.mono l3.le) rz ho2 fun v rv => q v F3 H3 ((l.trans l2).trans l3) eo3 rv
        | _ => exact q.elim
theorem re_chain {op op' : CmpOp} {r r' : R2} {o1 o2 : D → D → Option D} (ho : OpR X (compareOp op) r) (ho' : OpR X (compareOp op') r') (h1 : BinD L r o1) (h2 : BinD L r' o2) (ha : RE X L W a f) (hb : RE X L W c g) (hc : RE X L W c2 h)
    (hm : lastMarks [op, op'] [c, c2] = false := by with_unfolding_all rfl) : RE X L W (.Compare a [op, op'] [c, c2] pos) (chainM o1 o2 f g h) := peImp (pe_chain ho ho' ha hb hc hm) fun _ _ _ => chain_t h1 h2
theorem rt_chain {op op' : CmpOp} {r r' : R2} {o1 o2 : D → D → Option D} (ho : OpR X (compareOp op) r) (ho' : OpR X (compareOp op') r') (h1 : BinD L r o1) (h2 : BinD L r' o2) (ha : RE X L W a f) (hb : RE X L W c g) (hc : RE X L W c2 h)
    (hm : lastMarks [op, op'] [c, c2] = false := by with_unfolding_all rfl) : RT X L W (.Compare a [op, op'] [c, c2] pos) (bolM (chainM o1 o2 f g h)) := rt_of (pt_chain ho ho' ha hb hc hm) fun _ _ _ => chain_t h1 h2
/-! ### in, not in -/
def flatD : D → Bool
  | .none => true
  | .bool _ => true
  | .int _ => true
  | .str _ => true
  | _ => false
theorem flat_rep {v : V} {d : D} (r : Rep L.β F H v d) (f : flatD d = true) : flatV v = true := by
  cases r <;> first | rfl | cases f
theorem flat_eqv {v w : V} {d e : D} (r : Rep L.β F H v d) (s : Rep L.β F H w e) (f : flatD d = true) (g : flatD e = true) : eqV v w = PyData.eqv d e := by
  cases r <;> first | (cases f; done) | skip
  all_goals (cases s <;> first | (cases g; done) | skip)
  all_goals first | (simp only [PyData.eqv]; rfl) | (simp only [PyData.eqv, eqV])
theorem flat_all {vs : List V} {ds : List D} (r : Reps L.β F H vs ds) : ds.all flatD = true → vs.all flatV = true := by
  induction ds generalizing vs with
  | nil => cases r; exact fun _ => rfl
  | cons d ds ih =>
    cases r with
    | cons r rs =>
      intro h
      rw [List.all_cons, Bool.and_eq_true] at h ⊢
      exact ⟨flat_rep r h.1, ih rs h.2⟩
theorem flat_any {x : V} {dx : D} (rx : Rep L.β F H x dx) (fx : flatD dx = true) {vs : List V} {ds : List D} (r : Reps L.β F H vs ds) : ds.all flatD = true → (vs.any fun y => eqV y x) = ds.any fun y => PyData.eqv y dx := by
  induction ds generalizing vs with
  | nil => cases r; exact fun _ => rfl
  | cons d ds ih =>
    cases r with
    | cons r rs =>
      intro h
      rw [List.all_cons, Bool.and_eq_true] at h
      rw [List.any_cons, List.any_cons, ih rs h.2, flat_eqv r rx h.1 fx]
def inD (neg : Bool) : D → D → Option D
  | x, .list ds => if flatD x && ds.all flatD then some (.bool (if neg then !(ds.any fun y => PyData.eqv y x) else ds.any fun y => PyData.eqv y x)) else
      if SeqAt.shaped x && SeqAt.shaped (.list ds) then some (.bool (if neg then !(ds.any fun y => PyData.eqv y x) else ds.any fun y => PyData.eqv y x)) else none
  | x, .tuple ds => if flatD x && ds.all flatD then some (.bool (if neg then !(ds.any fun y => PyData.eqv y x) else ds.any fun y => PyData.eqv y x)) else none
  | _, _ => none
theorem inD_ok (neg : Bool) {r2 : R2} (h2 : ∀ x y H Q, (∃ d ds, Dp X.K H x d ∧ Dp X.K H y (.list ds) ∧ SeqAt.shaped d = true ∧ SeqAt.shaped (.list ds) = true ∧ Q (.bl (if neg then !(ds.any fun z => PyData.eqv z d) else ds.any fun z => PyData.eqv z d)) H) → r2 x y H Q) : BinD L (fun x y H Q => rIn X.K neg x y H Q ∨ r2 x y H Q) (inD neg) := by
  intro F H x y dx dy rr Q rx ry e q
  have go : ∀ (p : Addr) (xs : List V) (ds : List D), y = .ref p → (SqL X.K H p xs ∨ SqT X.K H p xs) → Reps L.β F H xs ds → (flatD dx && ds.all flatD) = true → rr = .bool (if neg then !(ds.any fun y => PyData.eqv y dx) else ds.any fun y => PyData.eqv y dx) → rIn X.K neg x y H Q := fun p xs ds hy hs rs hc hr => by
    rw [Bool.and_eq_true] at hc
    refine ⟨p, xs, hy, hs, flat_rep rx hc.1, flat_all rs hc.2, ?_⟩
    unfold inV
    rw [flat_any rx hc.1 rs hc.2]
    subst hr
    exact q _ (.bl _)
  cases dy with
  | list ds =>
    cases ry with
    | lst f hp rs =>
      by_cases hc : (flatD dx && ds.all flatD) = true
      · refine .inl (go _ _ ds rfl (.inl (.of hp)) rs hc ?_)
        have e' : (if (flatD dx && ds.all flatD) = true then some (PyData.bool (if neg then !(ds.any fun y => PyData.eqv y dx) else ds.any fun y => PyData.eqv y dx)) else _) = some rr := e
        rw [if_pos hc] at e'
        exact (Option.some.inj e').symm
      · have e' : (if (flatD dx && ds.all flatD) = true then some (PyData.bool (if neg then !(ds.any fun y => PyData.eqv y dx) else ds.any fun y => PyData.eqv y dx)) else
            if SeqAt.shaped dx && SeqAt.shaped (.list ds) then some (PyData.bool (if neg then !(ds.any fun y => PyData.eqv y dx) else ds.any fun y => PyData.eqv y dx)) else none) = some rr := e
        rw [if_neg hc] at e'
        obtain ⟨hs, rfl⟩ := iteSome e'
        obtain ⟨h3, h4⟩ := Bool.and_eq_true_iff.mp hs
        refine .inr (h2 _ _ _ _ ⟨dx, ds, rx.dp (SeqAt.canLay_of_shaped h3), ?_, h3, h4, q _ (.bl _)⟩)
        exact Rep.dp (L := L) (.lst f hp rs) (SeqAt.canLay_of_shaped h4)
  | tuple ds =>
    cases ry with
    | tup f hp rs =>
      have e' : (if (flatD dx && ds.all flatD) = true then some (PyData.bool (if neg then !(ds.any fun y => PyData.eqv y dx) else ds.any fun y => PyData.eqv y dx)) else none) = some rr := e
      obtain ⟨hc, hr⟩ := iteSome e'
      exact .inl (go _ _ ds rfl (.inr (.of hp)) rs hc hr.symm)
  | _ => cases e
theorem in_ok : BinD L (fun x y H Q => rIn X.K false x y H Q ∨ rInD X.K x y H Q) (inD false) := inD_ok false fun x y H Q h => h
theorem notin_ok : BinD L (fun x y H Q => rIn X.K true x y H Q ∨ rNotInD X.K x y H Q) (inD true) := inD_ok true fun x y H Q h => h
theorem u65 (hu : X.A.units + 200 < cLine) : X.A.units + 65 < cLine := by omega
theorem re_in (hu : X.A.units + 200 < cLine) (ha : RE X L W a f) (hb : RE X L W c g) (hm : behindInMarks .In c = false := by rfl) : RE X L W (.Compare a [.In] [c] pos) (binD (inD false) f g) := re_binD (pe_cmpR (op_in_seq.or (op_inD (u65 hu))) ha hb hm) in_ok
theorem re_notin (hu : X.A.units + 200 < cLine) (ha : RE X L W a f) (hb : RE X L W c g) (hm : behindInMarks .NotIn c = false := by rfl) : RE X L W (.Compare a [.NotIn] [c] pos) (binD (inD true) f g) := re_binD (pe_cmpR (op_notIn_seq.or (op_notInD (u65 hu))) ha hb hm) notin_ok
theorem rt_in (hu : X.A.units + 200 < cLine) (ha : RE X L W a f) (hb : RE X L W c g) (hm : behindInMarks .In c = false := by rfl) : RT X L W (.Compare a [.In] [c] pos) (bolM (binD (inD false) f g)) := rt_cmp (op_in_seq.or (op_inD (u65 hu))) in_ok ha hb hm
theorem rt_notin (hu : X.A.units + 200 < cLine) (ha : RE X L W a f) (hb : RE X L W c g) (hm : behindInMarks .NotIn c = false := by rfl) : RT X L W (.Compare a [.NotIn] [c] pos) (bolM (binD (inD true) f g)) := rt_cmp (op_notIn_seq.or (op_notInD (u65 hu))) notin_ok ha hb hm
end
/-! ### isinstance(x, a built-in class) -/
def tyD : D → Option String
  | .none => some "NoneType"
  | .bool _ => some "bool"
  | .int _ => some "int"
  | .str _ => some "str"
  | .list _ => some "list"
  | .tuple _ => some "tuple"
  | .dict _ => none
def isiB (t c : String) : Bool := t == c || (t == "bool" && c == "int")
theorem isi_tab (K : PySem.W.Frag) : (["NoneType", "bool", "int", "str", "list", "tuple"].all fun t => ["bool", "int", "str", "list", "tuple"].all fun c => PySem.W.kitOne K (.type t) (.type c) == some (isiB t c)) = true := by kernel_rfl
theorem isi_at (K : PySem.W.Frag) {t c : String} (ht : t ∈ ["NoneType", "bool", "int", "str", "list", "tuple"]) (hc : c ∈ ["bool", "int", "str", "list", "tuple"]) : PySem.W.kitOne K (.type t) (.type c) = some (isiB t c) := by
  have := List.all_eq_true.mp (List.all_eq_true.mp (isi_tab K) t ht) c hc
  simpa using this
def isiD (c : String) (d : D) : Option (Bool × D) := (tyD d).map fun t => (false, .bool (isiB t c))
theorem ty_pk {K : PySem.W.Frag} {v : V} {d : D} {t : String} (rx : Pk L F H σ en v d) (h : tyD d = some t) : TyX K H v (.type t) ∧ t ∈ ["NoneType", "bool", "int", "str", "list", "tuple"] := by
  rcases rx with rx | ⟨i, a, rfl, _, _, top⟩
  · cases rx with
    | non => cases h; exact ⟨.base .non, by simp⟩
    | bl x => cases h; exact ⟨.base (.bl x), by simp⟩
    | int x => cases h; exact ⟨.base (.int x), by simp⟩
    | str x => cases h; exact ⟨.base (.str x), by simp⟩
    | lst f hp rs => cases h; exact ⟨.base (.lst hp), by simp⟩
    | tup f hp rs => cases h; exact ⟨.base (.tup hp), by simp⟩
    | dK f hp rs => cases h
    | bag => cases h
  · cases d with
    | list ds =>
      cases h
      obtain ⟨xs, hx, _⟩ := top
      exact ⟨.base (.lst hx), by simp⟩
    | dict kvs => cases h
    | _ => exact top.elim
theorem re_isi {n : Str} {cn : String} {f : M D} {p1 p2 : Pos} (hcn : cn ∈ ["bool", "int", "str", "list", "tuple"]) (hv : bootBuiltins n = some (.type cn)) (hn : n ≠ "__name__") (hd : (n == ("__debug__" : Str)) = false) (ha : RP X L W a f) (hg : Gl X "isinstance") (hm : X.mg "isinstance" = none) (hg2 : Gl X n) (hm2 : X.mg n = none)
    (hs1 : starEach [a, .Name n p2] X.env = (false, eval a X.env) :: starEach [.Name n p2] X.env := by rfl) (hs2 : starEach [.Name n p2] X.env = (false, eval (.Name n p2) X.env) :: starEach [] X.env := by rfl) (hpl : (backTo pos (starEach [.Name n p2] X.env)).any (·.1) = false := by rfl) :
    RE X L W (.Call (.Name "isinstance" p1) [a, .Name n p2] [] pos) (fz (unM (isiD cn) f)) :=
  rx_fz (peImp (pe_callB call_isi hg hm PyProof.Rows.boot_isinstance (pa_cons ha (pa_cons (pe_bltn hg2 hm2 hv (v := .ty cn) rfl hn hd) pa_nil hs2) hs1) (by decide) (by decide) hs1 hpl) fun σ H Q ⟨F, en, b, eo, q⟩ => ⟨F, en, b, eo, by
    unfold unM M.bind at q
    cases hf : f en b with
    | stuck => rw [hf] at q; exact q
    | exc x en' b' => rw [hf] at q; exact q
    | ok dx en' b' =>
      rw [hf] at q
      intro v F2 H2 l o2 rx
      dsimp only [opt] at q
      unfold isiD at q
      cases ht : tyD dx with
      | none => rw [ht] at q; exact q.elim
      | some t =>
        rw [ht] at q
        obtain ⟨ty, hm⟩ := ty_pk (K := X.K) rx ht
        exact ⟨v, .ty cn, .type t, .type cn, isiB t cn, rfl, .ty cn, ty, isi_at X.K hm hcn, q _ F2 H2 l o2 (.bl _) .no⟩⟩)
/-! ### sorted(ints) -/
def insI (x : Int) : List Int → List Int
  | [] => [x]
  | y :: l => if x ≤ y then x :: y :: l else y :: insI x l
def sortI (l : List Int) : List Int := l.foldr insI []
theorem insI_perm (x : Int) : ∀ l, (insI x l).Perm (x :: l)
  | [] => .refl _
  | y :: l => by
    unfold insI
    by_cases h : x ≤ y
    · rw [if_pos h]
    · rw [if_neg h]
      exact ((insI_perm x l).cons y).trans (.swap x y l)
theorem insI_sorted (x : Int) : ∀ {l : List Int}, l.Pairwise (· ≤ ·) → (insI x l).Pairwise (· ≤ ·)
  | [], _ => List.pairwise_singleton _ _
  | y :: l, h => by
    unfold insI
    by_cases c : x ≤ y
    · rw [if_pos c]
      refine List.pairwise_cons.mpr ⟨fun z hz => ?_, h⟩
      rcases List.mem_cons.mp hz with rfl | hz
      · exact c
      · exact Int.le_trans c ((List.pairwise_cons.mp h).1 z hz)
    · rw [if_neg c]
      refine List.pairwise_cons.mpr ⟨fun z hz => ?_, insI_sorted x (List.pairwise_cons.mp h).2⟩
      rcases List.mem_cons.mp ((insI_perm x l).mem_iff.mp hz) with rfl | hz
      · omega
      · exact (List.pairwise_cons.mp h).1 z hz
theorem sortI_perm : ∀ l, (sortI l).Perm l
  | [] => .refl _
  | x :: l => (insI_perm x (sortI l)).trans ((sortI_perm l).cons x)
theorem sortI_sorted : ∀ l, (sortI l).Pairwise (· ≤ ·)
  | [] => .nil
  | x :: l => insI_sorted x (sortI_sorted l)
theorem sorted_eq : ∀ {l m : List Int}, l.Perm m → l.Pairwise (· ≤ ·) → m.Pairwise (· ≤ ·) → l = m
  | [], m, h, _, _ => h.nil_eq
  | x :: l, [], h, _, _ => by have := h.length_eq; simp at this
  | x :: l, y :: m, h, h1, h2 => by
    obtain ⟨a1, a2⟩ := List.pairwise_cons.mp h1
    obtain ⟨b1, b2⟩ := List.pairwise_cons.mp h2
    have hxy : x = y := by
      have hx : x ∈ y :: m := h.mem_iff.mp (List.mem_cons_self ..)
      have hy : y ∈ x :: l := h.mem_iff.mpr (List.mem_cons_self ..)
      rcases List.mem_cons.mp hx with e | hx
      · exact e
      · rcases List.mem_cons.mp hy with e | hy
        · exact e.symm
        · have := a1 y hy
          have := b1 x hx
          omega
    subst hxy
    rw [sorted_eq (List.Perm.cons_inv h) a2 b2]
def sortD : D → Option (Bool × D)
  | .list ds => (intsOf ds).map fun ns => (true, .list ((sortI ns).map .int))
  | _ => none
theorem intsReps (ns : List Int) : Reps L.β F H (ns.map V.int) (ns.map .int) := by
  induction ns with
  | nil => exact .nil
  | cons n ns ih => exact .cons (.int n) ih
theorem sortD_ok : OneS L (rSortedI X.K) sortD := by
  intro F H σ en b x dx rr Q eo rx e q
  cases dx with
  | list ds =>
    obtain ⟨ns, hn, hr⟩ := mapSome (show (intsOf ds).map _ = some rr from e)
    subst hr
    obtain ⟨p, xs, rfl, r, h | h⟩ := rx.seq (K := X.K) (.inl rfl)
    · have hx := ints_rep r hn
      subst hx
      refine ⟨p, ns, rfl, .of h.2, fun ns' l pm so hl => ?_⟩
      have e2 := sorted_eq (pm.trans (sortI_perm ns).symm) so (sortI_sorted ns)
      subst e2
      exact newLst eo hl (intsReps (L := L) _) fun g e1 s rk n => q _ _ _ g e1 s rk n
    · cases h.1
  | _ => cases e
theorem rx_sorted {f : M D} (ha : RP X L W a f) (hg : Gl X "sorted") (hm : X.mg "sorted" = none) (hst : starEach [a] X.env = (false, eval a X.env) :: starEach [] X.env := by rfl) (hpl : (backTo pos (starEach [] X.env)).any (·.1) = false := by rfl) :
    RX X L W (.Call (.Name "sorted" p) [a] [] pos) (unM sortD f) := rx_b1 cr_sortedI sortD_ok (by decide +kernel) ha hg hm (by decide) (by decide) hst hpl
/-! ### list.remove(int) -/
def remAt (ns : List Int) (k : Int) : Option Nat := ns.findIdx? (· == k)
def oRemove : List D → List D → Option (List D × D)
  | ds, [.int k] => (intsOf ds).bind fun ns => (remAt ns k).map fun j => (ds.eraseIdx j, .none)
  | _, _ => none
theorem ints_back : ∀ {ds : List D} {ns : List Int}, intsOf ds = some ns → ds = ns.map .int
  | [], ns, h => by cases h; rfl
  | d :: ds, ns, h => by
    cases d with
    | int i =>
      obtain ⟨ms, h1, rfl⟩ := mapSome (show (intsOf ds).map (i :: ·) = some ns from h)
      rw [ints_back h1]
      rfl
    | _ => cases h
theorem oRemove_ok : MutS L rRemI oRemove := by
  intro F H p xs ds vs as zs rr Q hp rx rs e q
  match as, e, rs with
  | [.int k], e, rs =>
    have e' : (intsOf ds).bind (fun ns => (remAt ns k).map fun j => (ds.eraseIdx j, PyData.none)) = some (zs, rr) := e
    cases hn : intsOf ds with
    | none => rw [hn] at e'; cases e'
    | some ns =>
      rw [hn] at e'
      obtain ⟨j, hj, e2⟩ := mapSome e'
      cases e2
      obtain ⟨v, rfl, rv⟩ := one_rep (L := L) rs
      cases rv
      have hx := ints_rep rx hn
      subst hx
      have hd := ints_back hn
      subst hd
      unfold remAt at hj
      obtain ⟨h1, h2, h3⟩ := List.findIdx?_eq_some_iff_getElem.mp hj
      refine ⟨p, ns, k, j, rfl, rfl, hp, ?_, fun m hm he => ?_, q _ _ ?_ .non⟩
      · rw [List.getElem?_eq_getElem h1]
        have : ns[j] = k := by simpa using h2
        rw [this]
      · have h4 := h3 m hm
        rw [List.getElem?_eq_getElem (by omega)] at he
        have : ns[m] = k := Option.some.inj he
        simp [this] at h4
      · have := rx.erase j
        have e3 : ∀ (l : List Int) (j : Nat), (l.map V.int).eraseIdx j = (l.eraseIdx j).map V.int := by
          intro l
          induction l with
          | nil => intro j; rfl
          | cons x l ih =>
            intro j
            cases j with
            | zero => rfl
            | succ j => exact congrArg (V.int x :: ·) (ih j)
        rw [e3] at this
        exact this
theorem re_remove {i : Nat} {apos : Pos} {f : M (List D)} (h : PE X (.Call (.Attribute a "remove" apos) [c] [] pos) (tBM X.K "list" rRemI (tVar i) (tA L W f))) : RE X L W (.Call (.Attribute a "remove" apos) [c] [] pos) (methM i oRemove f) := re_meth (id := "list.remove") (name := "remove") (apos := apos) (es := [c]) h oRemove_ok
/-! ### tuple(range(n)) -/
def trgM (f : M D) : M D := f.bind fun x => match x with
  | .int n => if rgOk 0 n then M.ret (.tuple (rgD 0 n)) else stk
  | _ => stk
theorem re_trg {f : M D} {q p2 : Pos} (hc : X.calm = true) (ha : RE X L W a f) (hg : Gl X "tuple") (hm : X.mg "tuple" = none) (hg2 : Gl X "range") (hm2 : X.mg "range" = none)
    (na : starEach [a] X.env = (false, eval a X.env) :: starEach [] X.env := by rfl) (na2 : starEach [.Call (.Name "range" p2) [a] [] q] X.env = (false, eval (.Call (.Name "range" p2) [a] [] q) X.env) :: starEach [] X.env := by rfl) :
    RE X L W (.Call (.Name "tuple" p) [.Call (.Name "range" p2) [a] [] q] [] pos) (trgM f) := peImp (pe_tupRg hc hg hm (prg_1 hg2 hm2 ha na) na2) fun σ H Q ⟨F, en, b, eo, q⟩ => ⟨F, en, b, eo, by
  unfold trgM M.bind at q
  cases hf : f en b with
  | stuck => rw [hf] at q; exact q
  | exc x en' b' => rw [hf] at q; exact q
  | ok dx en' b' =>
    rw [hf] at q
    intro x F' H' l eo' rx
    cases dx with
    | int n =>
      dsimp only at q
      cases rx
      by_cases hz : rgOk 0 n = true
      · rw [if_pos hz] at q
        exact ⟨n, rfl, rgOk_ok hz, fun p hp => newTup eo' hp (rg_rep (L := L) 0 n) fun g e1 s rk => q _ _ _ (l.trans s) e1 rk⟩
      · rw [if_neg hz] at q
        exact q.elim
    | _ => exact q.elim⟩
/-- a def that is not called -/
theorem FnG.stuck {P : Program} {w : World} {K : PySem.W.Frag} {mg : Str → Option Value} {base : Heap} {k : Nat} {f : Addr} {fd : FuncData} {ps : List Str} {β γ : Addr} {xr : ExR} {n : Nat} (hn : ps.length = n) : FnG P w K mg base k f fd ps (spM β γ xr n fun _ _ => .stuck) :=
  ⟨fun vs H Q E h => h.1.trans hn.symm, fun _ _ _ _ _ h => by obtain ⟨_, F, ds, b, _, _, _, q⟩ := h; exact q.elim⟩
end PL
/-! enumerate(tuple) -/
namespace PL
open PySem PySem.Spec PyProof.Rows L2
open PySem (wpAny)
theorem meets_enumT (l : Addr) (items : Array Value) (n : Nat) (dct : Option Addr) (sl : Array (Option Value)) :
    Meets (Builtin.«enumerate.__new__» ⟨[.type "enumerate", .ref l], []⟩) (fun _ R s => s.heap.get? l = some { cls := .type "tuple", dict := dct, data := .seq items n, slots := sl } ∧
      R (.ok (.ret (.ref (s.heap.push { cls := .type "tuple_iterator", data := .fields #[.ref l, .int 0 0] }).objs.size)))
        { s with heap := (s.heap.push { cls := .type "tuple_iterator", data := .fields #[.ref l, .int 0 0] }).push { cls := .type "enumerate", data := .fields #[.none, .bool false, .ref s.heap.objs.size, rawInt 0, .none, .none] } }) :=
  .of_wp fun prog w A R s h => by
    obtain ⟨hp, g, d, tk, os⟩ := s; obtain ⟨hl, h⟩ := h
    have hsub := sub_enumerate
    have hL : Heap.IsTuple (Shared.heap ⟨hp, g, d, tk, os⟩) l items := ⟨_, hl, rfl, n, rfl⟩
    wp_walk using PySem.AutoSeq1.wpAny_loadPart' hl
    refine wpAny_stack_any fun st => wpAny_pure ?_
    split
    · rename_i c _ _ _ _ _
      cases (c == Value.type "enumerate")
      · wp_walk using PySem.AutoSeq1.wpAny_loadPart' hl, wpAny_pyIter_tuple hL
        exact ⟨_, rfl, h⟩
      · wp_walk using PySem.AutoSeq1.wpAny_loadPart' hl, wpAny_pyIter_tuple hL
        exact ⟨_, rfl, h⟩
    · wp_walk using PySem.AutoSeq1.wpAny_loadPart' hl, wpAny_pyIter_tuple hL
      exact ⟨_, rfl, h⟩
section
variable {prog : Program} {w : World} {A : Around} {E : Value → Shared → Prop} {s : Shared}
theorem call_enumT {l : Addr} {items : Array Value} {Q : Value → Shared → Prop} (hL : s.heap.IsTuple l items)
    (h : ∀ h', IsEnum h' (s.heap.objs.size + 1) s.heap.objs.size 0 .none → h'.IsTupleIter s.heap.objs.size l 0 → h'.objs.size = s.heap.objs.size + 2 →
      (∀ b o, s.heap.get? b = some o → h'.get? b = some o) → Q (.ref (s.heap.objs.size + 1)) { s with heap := h' }) :
    wpAny (model prog w) A (call (.type "enumerate") [.ref l]) Q E s := by
  obtain ⟨⟨c, dct, dt, sl⟩, hl, hc, n, hd⟩ := hL
  replace hc : c = .type "tuple" := hc
  replace hd : dt = .seq items n := hd
  subst hc hd
  refine callType_new F.called_enumerate (by decide) (F.typeCall_enumerate_1 _) (F.newCall_enumerate_1 _) (fun obj => F.args_object_init_2 obj _) F.entry_enumerate_new
    (meets_enumT l items n dct sl) ⟨hl, ?_⟩
  have hz : (s.heap.push { cls := .type "tuple_iterator", data := .fields #[.ref l, .int 0 0] }).objs.size = s.heap.objs.size + 1 := Heap.size_push ..
  show _ ∧ _
  rw [hz]
  have he : IsEnum ((s.heap.push { cls := .type "tuple_iterator", data := .fields #[.ref l, .int 0 0] }).push
      { cls := .type "enumerate", data := .fields #[.none, .bool false, .ref s.heap.objs.size, rawInt 0, .none, .none] }) (s.heap.objs.size + 1) s.heap.objs.size 0 .none := by
    have := Heap.get?_push_size (s.heap.push { cls := .type "tuple_iterator", data := .fields #[.ref l, .int 0 0] })
      (o := { cls := .type "enumerate", data := .fields #[.none, .bool false, .ref s.heap.objs.size, rawInt 0, .none, .none] }) rfl
    rw [hz] at this; exact this
  refine ⟨⟨_, he, rfl⟩, h _ he ⟨_, Heap.get?_push_of_some _ (Heap.get?_push_size _ rfl), rfl, rfl⟩ (by rw [Heap.size_push, hz]) fun b o x => Heap.get?_push_of_some _ (Heap.get?_push_of_some _ x)⟩
end
/-- the tuple at a -/
def IteT (K : PySem.W.Frag) (a : Addr) : It :=
  ⟨fun i H => ∃ (xs : List V) (x : V), SqT K H a xs ∧ xs[i]? = some x, fun i H v H' => ∃ T x, v = .ref T ∧ H T = none ∧ H' = upd H T (.tup [.int (i : Nat), x]) ∧ ∀ xs, SqT K H a xs → xs[i]? = some x, fun i H => ∃ xs : List V, SqT K H a xs ∧ xs.length ≤ i⟩
theorem turn_enumT {P : Program} {w : World} {K : PySem.W.Frag} {elts : List Expr} {kk : Nat} {tpos : Pos} (a e it : Addr) :
    Turn P w K (.Tuple elts kk tpos) (IteT K a) [e, it] e (fun i h => (∃ old, IsEnum h e it ((i : Nat) : Int) old) ∧ h.IsTupleIter it a i ∧ e ≠ it) where
  mem := by simp
  obj := fun i h st b hb => by
    obtain ⟨⟨old, he⟩, ⟨o, ho, hc, hd⟩, _⟩ := st
    have e' : b = e ∨ b = it := by simpa using hb
    rcases e' with z | z
    · rw [z]; exact ⟨_, he, fun v q => nomatch q⟩
    · rw [z]; exact ⟨o, ho, fun v q => by rw [hd] at q; cases q⟩
  keep := fun i h h' st k => let ⟨⟨old, he⟩, hi, hne⟩ := st; ⟨⟨old, k e (by simp) _ he⟩, hi.at fun o q => k it (by simp) o q, hne⟩
  item := by
    intro X hP hw hK hc i pins s σ H E I hf st hg
    subst hP hw hK
    obtain ⟨⟨old, he⟩, hit, hne⟩ := st
    obtain ⟨xs, x, hq, hx⟩ := hg
    obtain ⟨its, rv, p, hz⟩ := I.tuple hq
    have pt : s.heap.IsTuple a its.toArray := p
    obtain ⟨u, hu, ru⟩ := rv.get hx
    have hel : e < s.heap.objs.size := Heap.lt_size he
    have hil : it < s.heap.objs.size := by obtain ⟨_, q, _⟩ := hit; exact Heap.lt_size q
    have hai : a ≠ it := fun z => by
      obtain ⟨o, h1, h2, _⟩ := pt
      obtain ⟨o', h3, h4, _⟩ := hit
      rw [z, h3] at h1
      cases h1
      exact absurd (Value.type.inj (h4.symm.trans h2)) (by decide)
    have hae : e ≠ a := fun z => by
      obtain ⟨o, h1, h2, _⟩ := pt
      have he' : s.heap.get? e = _ := he
      rw [z, h1] at he'
      cases he'
      exact absurd (Value.type.inj h2) (by decide)
    refine wpAny_pyNext_enum_itemD (Draws.tuple (A := X.A.in1) (I.ok.hd hc) it a hai its.toArray) he ⟨hit, pt⟩ (by
      have := (List.getElem?_eq_some_iff.mp hu).1
      simpa using this) hne (by simp [hne, hae]) fun y h' tk hy ho hst hT hsz hk => ?_
    have hyu : y = u := by
      have hy' : its[i]? = some y := by simpa using hy
      rw [hu] at hy'
      exact (Option.some.inj hy').symm
    subst hyu
    refine ⟨_, rfl, wpAny_letOwnedTupleGo_enum (s := { s with heap := h', toks := tk + 1 }) ho fun h'' he' sb => ?_⟩
    have hT2 : h''.get? s.heap.objs.size = some { cls := .type "tuple", data := .seq #[.int i tk, y] } := (sb.2 _ (Nat.ne_of_gt hel)).trans hT
    have new : ObjOk X.prog X.w (upd H s.heap.objs.size (.tup [.int (i : Nat), x])) h'' s.heap.objs.size (.tup [.int (i : Nat), x]) :=
      ⟨by show 2 ≤ sizeLine; decide, [.int i tk, y], .cons ⟨_, rfl⟩ (.cons ru .nil), ⟨_, hT2, rfl, _, rfl⟩⟩
    have I1 : Inv X pins σ (upd H s.heap.objs.size (.tup [.int (i : Nat), x])) { s with heap := h'', toks := tk + 1 } :=
      I.turnedNew (ch := [e, it]) (fun b ob hb q => (sb.2 b (fun z => hb (by simp [z]))).trans (hk b ob (fun z => hb (by simp [z])) (fun z => hb (by simp [z])) q)) hf (Nat.le_refl _) new
    refine ⟨.ref s.heap.objs.size, _, I1, rfl, ⟨_, x, rfl, I.hok.fresh (Nat.le_refl _), rfl, fun ys hy => by rw [I.tuple_inj hy hq]; exact hx⟩, ⟨⟨y, ?_⟩, hst.1.at fun o q => (sb.2 it (Ne.symm hne)).trans q, hne⟩, fun b hb => ?_⟩
    · have e1 : ((i + 1 : Nat) : Int) = (i : Int) + 1 := by omega
      rw [e1]; exact he'
    · have hb' : b < s.heap.objs.size := by
        have e' : b = e ∨ b = it := by simpa using hb
        rcases e' with z | z
        · rw [z]; exact hel
        · rw [z]; exact hil
      rw [upd_ne (Nat.ne_of_lt hb')]
      exact (hf b hb).1
  done := by
    intro X hP hw hK hc i pins s σ H E I hf st hg
    subst hP hw hK
    obtain ⟨⟨old, he⟩, hit, hne⟩ := st
    obtain ⟨xs, hq, hx⟩ := hg
    obtain ⟨its, rv, p, hz⟩ := I.tuple hq
    have pt : s.heap.IsTuple a its.toArray := p
    obtain ⟨f0, f1, f2, f3, f4, f5⟩ := hf it (by simp)
    have hl := rv.length
    have hai : a ≠ it := fun z => by
      obtain ⟨o, h1, h2, _⟩ := pt
      obtain ⟨o', h3, h4, _⟩ := hit
      rw [z, h3] at h1
      cases h1
      exact absurd (Value.type.inj (h4.symm.trans h2)) (by decide)
    have hT : s.TypeIs (.ref e) "enumerate" := ⟨_, he, rfl⟩
    unfold pyNext
    refine wpAny_bind (wpAny_attempt (wpAny_callSpecial?_slot (name := Str.ofString "__next__") hT F.slot_enumerate_next
      (wpAny_call_entry F.slot_enumerate_next hT F.entry_enumerate_next ?_ (F.args_enumerate_next_1 _))))
    show wpAny _ _ (field (.ref e) 2 >>= _) _ _ _
    refine wpAny_bind (wpAny_field he rfl (x := .ref it) rfl ?_)
    refine wpAny_bind (wpAny_nextOf_tuple_end (A := X.A.in1) (I.ok.hd hc) hit pt (by simp; omega) fun h' x he' hx' => ?_)
    obtain ⟨o, ho, hc'⟩ := hx'
    refine wpAny_bind (wpAny_isInstance (T := "StopIteration") (b := true) ⟨o, ho, hc'⟩ isSubtype_stop ?_)
    exact wpAny_pure ⟨rfl, I.turned (t' := s.toks) (fun b o hb q => he' b o hb q) f0 f1 f3 f4 f5⟩
  self := fun A i s Q E st h => let ⟨⟨_, he⟩, _⟩ := st; wpAny_pyIter_enum he h
def iEnumT (K : PySem.W.Frag) (ta : TA) : TI := fun σ H R => ta σ H fun vs H1 => ∃ a xs, vs = [.ref a] ∧ SqT K H1 a xs ∧ R (IteT K a) H1
theorem pi_enumT {X : Cx} {e : Expr} {ta : TA} {p pos tpos : Pos} {elts : List Expr} {kk : Nat} (hg : Gl X "enumerate") (hm : X.mg "enumerate" = none) (ha : PA X [e] ta) (hs : starEach [e] X.env = [(false, eval e X.env)] := by rfl) :
    PI X (.Tuple elts kk tpos) (.Call (.Name "enumerate" p) [e] [] pos) (iEnumT X.K ta) := by
  refine ⟨fun pins s σ H R I h => ?_⟩
  refine Call_ (ld_blt I hg hm boot_enumerate (PyProof.Rows.callWith_type1 (thn (ha.run pos pins s σ H _ I h) fun us s1 ⟨vs, H1, I1, r1, q1⟩ => ?_) hs rfl))
  obtain ⟨a, xs, ex, hq, q⟩ := q1
  subst ex
  cases r1 with
  | cons r rr =>
    cases rr
    cases r
    obtain ⟨its, rv, p', hz⟩ := I1.tuple hq
    refine call_enumT (show s1.heap.IsTuple a its.toArray from p') fun h' he hit hsz hk => wpAny_pyIter_enum he ?_
    have I2 : Inv X pins σ H1 { s1 with heap := h' } := I1.kept (t' := s1.toks) hk
    refine ⟨s1.heap.objs.size + 1, [s1.heap.objs.size + 1, s1.heap.objs.size], _, _, H1, rfl, I2, turn_enumT a (s1.heap.objs.size + 1) s1.heap.objs.size, ⟨⟨.none, he⟩, hit, Nat.succ_ne_self _⟩, fun b hb => ?_, q⟩
    have e' : b = s1.heap.objs.size + 1 ∨ b = s1.heap.objs.size := by simpa using hb
    have hle : s1.heap.objs.size ≤ b := by
      rcases e' with z | z
      · rw [z]; exact Nat.le_add_right _ _
      · rw [z]; exact Nat.le_refl _
    exact I1.fpOk hle (I1.hok.fresh hle)
section
variable {X : Cx} {L : Lo} {W : WX} {F F' : Addr → Prop} {H H' : Hp} {σ : St} {en : SE} {b : Bg}
variable {a c e : Expr} {pos : Pos} {st : Stmt}
theorem walk_enumT {K : PySem.W.Frag} {p : Addr} {xs : List V} {ds : List D} (f : F p) (h : H p = some (.tup xs)) (r : Reps L.β F H xs ds) : WalkOk L (IteT K p) F H (enumL ds) where
  go := fun i d F2 H2 e l t => by
    rw [enumL_get] at e
    obtain ⟨d0, hd, rfl⟩ := mapSome e
    have h2 : H2 p = some (.tup xs) := (l p f).2.trans h
    obtain ⟨y, hy, ry⟩ := (r.mono l).get hd
    refine ⟨⟨xs, y, .of h2, hy⟩, fun v H' ⟨T, x, ev, hT, eH, k⟩ => ?_⟩
    have k' := k xs (.of h2)
    rw [hy] at k'
    cases k'
    subst ev
    subst eH
    exact yld_tup t hT (.cons (.int _) (.cons ry .nil))
  stop := fun F2 H2 l => ⟨xs, .of ((l p f).2.trans h), by rw [enumL_len, r.len]; exact Nat.le_refl _⟩
def enW2 (f : M (List D)) : M (List D) := f.bind fun x => match x with
  | [.list ds] => M.ret (enumL ds)
  | [.tuple ds] => M.ret (enumL ds)
  | _ => stk
theorem ri_enum2 {p tpos : Pos} {elts : List Expr} {kk : Nat} {f : M (List D)} (ha : RA X L W [a] f) (hg : Gl X "enumerate") (hm : X.mg "enumerate" = none) (hs : starEach [a] X.env = [(false, eval a X.env)] := by rfl) : RI X L W (.Tuple elts kk tpos) (.Call (.Name "enumerate" p) [a] [] pos) (enW2 f) := by
  have key : PI X (.Tuple elts kk tpos) (.Call (.Name "enumerate" p) [a] [] pos) (fun σ H R => (tA L W f) σ H fun vs H1 => (∃ q xs, vs = [.ref q] ∧ SqL X.K H1 q xs ∧ R (Ite X.K q) H1) ∨ ∃ q xs, vs = [.ref q] ∧ SqT X.K H1 q xs ∧ R (IteT X.K q) H1) := by
    refine ⟨fun pins s σ H R I h => ?_⟩
    refine Call_ (ld_blt I hg hm boot_enumerate (PyProof.Rows.callWith_type1 (thn (ha.run pos pins s σ H _ I h) fun us s1 ⟨vs, H1, I1, r1, q1⟩ => ?_) hs rfl))
    have fin : ∀ (q : Addr) (b : Addr), b = s1.heap.objs.size + 1 ∨ b = s1.heap.objs.size → FpOk X pins H1 b := fun q b e' => by
      have hle : s1.heap.objs.size ≤ b := by
        rcases e' with z | z
        · rw [z]; exact Nat.le_add_right _ _
        · rw [z]; exact Nat.le_refl _
      exact I1.fpOk hle (I1.hok.fresh hle)
    rcases q1 with ⟨q, xs, ex, hq, q2⟩ | ⟨q, xs, ex, hq, q2⟩
    · subst ex
      cases r1 with
      | cons r rr =>
        cases rr
        cases r
        obtain ⟨its, rv, p', hz⟩ := I1.list hq
        refine call_enumerate_list p'.isList fun h' he hit hsz hk => wpAny_pyIter_enum he ?_
        have I2 : Inv X pins σ H1 { s1 with heap := h' } := I1.kept (t' := s1.toks) hk
        exact ⟨s1.heap.objs.size + 1, [s1.heap.objs.size + 1, s1.heap.objs.size], _, _, H1, rfl, I2, turn_enum q (s1.heap.objs.size + 1) s1.heap.objs.size, ⟨⟨.none, he⟩, hit, Nat.succ_ne_self _⟩, fun b hb => fin q b (by simpa using hb), q2⟩
    · subst ex
      cases r1 with
      | cons r rr =>
        cases rr
        cases r
        obtain ⟨its, rv, p', hz⟩ := I1.tuple hq
        refine call_enumT (show s1.heap.IsTuple q its.toArray from p') fun h' he hit hsz hk => wpAny_pyIter_enum he ?_
        have I2 : Inv X pins σ H1 { s1 with heap := h' } := I1.kept (t' := s1.toks) hk
        exact ⟨s1.heap.objs.size + 1, [s1.heap.objs.size + 1, s1.heap.objs.size], _, _, H1, rfl, I2, turn_enumT q (s1.heap.objs.size + 1) s1.heap.objs.size, ⟨⟨.none, he⟩, hit, Nat.succ_ne_self _⟩, fun b hb => fin q b (by simpa using hb), q2⟩
  refine piImp key fun σ H R ⟨F, en, b, eo, q⟩ => ⟨F, en, b, eo, ?_⟩
  unfold enW2 M.bind at q
  cases hf : f en b with
  | stuck => rw [hf] at q; exact q
  | exc x en' b' => rw [hf] at q; exact q
  | ok d en' b' =>
    rw [hf] at q
    intro v F2 H2 l o2 rv
    match d, q, rv with
    | [.list ds], q, rv =>
      cases rv with
      | cons r t =>
        cases t
        cases r with
        | lst f h rs => exact .inl ⟨_, _, rfl, .of h, q _ F2 H2 l o2 (walk_enumL f h rs)⟩
    | [.tuple ds], q, rv =>
      cases rv with
      | cons r t =>
        cases t
        cases r with
        | tup f h rs => exact .inr ⟨_, _, rfl, .of h, q _ F2 H2 l o2 (walk_enumT f h rs)⟩
end
/-! ### sum of a list or a tuple -/
section
variable {prog : Program} {w : World} {A : Around} {E : Value → Shared → Prop} {s : Shared}
theorem sum_tupG {l : Addr} {its : List Value} {ns : List Int} {Q : Value → Shared → Prop} (hh : A.handled = none) (hl : s.heap.IsTuple l its.toArray) (hi : IntsAre its ns)
    (h : ∀ h' tk t', (∀ b o, s.heap.get? b = some o → h'.get? b = some o) → Q (.int ns.sum t') { s with heap := h', toks := tk }) : wpAny (model prog w) A (call (.builtin "sum") [.ref l]) Q E s := by
  obtain ⟨xs, e⟩ := hi.allInts.items
  have hn : numsOf (intItems xs).toList = ns := by rw [← e]; exact hi.numsOf
  rw [nums_intItems] at hn
  rw [e] at hl
  have hlt : l < s.heap.objs.size := by obtain ⟨_, q, _⟩ := hl; exact Heap.lt_size q
  refine call_sum_walkG (wpAny_pyIter_tuple hl ?_)
  refine ⟨_, _, _, _, _, _, numAt xs, rfl, Walks.tuple (A := A.in1) hh _ l (Nat.ne_of_lt hlt) (intItems xs), ⟨⟨_, Heap.get?_push_size _ rfl, rfl, rfl⟩, hl.push _⟩, fun b hb => ?_, (fun _ _ => intItems_at), fun h' tk t' hk => ?_⟩
  · show b < (s.heap.push _).objs.size
    rw [Heap.size_push]
    rcases List.mem_cons.mp hb with rfl | hb
    · exact Nat.lt_succ_self _
    · rcases List.mem_cons.mp hb with rfl | hb
      · exact Nat.lt_succ_of_lt hlt
      · cases hb
  · have := h h' tk t' (fun b o e => hk b o (fun z => by
      have h1 : b = s.heap.objs.size := by simpa using z
      have h2 := Heap.lt_size e
      rw [h1] at h2
      exact Nat.lt_irrefl _ h2) (Heap.get?_push_of_some _ e))
    have e2 : preSum (numAt xs) (intItems xs).size = ns.sum := by
      rw [preSum_eq, List.take_of_length_le (by simp [intItems]), hn]
    rw [e2]
    exact this
end
def rSum2 (K : PySem.W.Frag) : List V → Hp → VK → Prop := fun vs H Q => ∃ (a : Addr) (ns : List Int), vs = [V.ref a] ∧ (SqL K H a (ns.map V.int) ∨ SqT K H a (ns.map V.int)) ∧ Q (.int ns.sum) H
theorem cr_sum2 {X : Cx} (hc : X.calm = true) : CallR X (.builtin "sum") (rSum2 X.K) := by
  intro pins s σ H vs us Q I r h
  obtain ⟨a, ns, rfl, hs | hs, q⟩ := h
  · exact cr_sum hc pins s σ H _ us Q I r ⟨a, ns, rfl, hs, q⟩
  · obtain ⟨its, rv, hl, _⟩ := I.tuple hs
    rw [Vals.ref1 r]
    exact sum_tupG (I.ok.hd hc) (show s.heap.IsTuple a its.toArray from hl) rv.ints fun h' tk t' hk => ⟨.int _, H, I.kept hk, ⟨_, rfl⟩, q⟩
def sum2D : D → Option (Bool × D)
  | .list ds => (intsOf ds).map fun ns => (false, .int ns.sum)
  | .tuple ds => (intsOf ds).map fun ns => (false, .int ns.sum)
  | _ => none
section
variable {X : Cx} {L : Lo} {W : WX} {F F' : Addr → Prop} {H H' : Hp} {σ : St} {en : SE} {b : Bg}
variable {a c e : Expr} {pos p : Pos} {st : Stmt} {f : M D}
theorem sum2D_ok : OneS L (rSum2 X.K) sum2D := by
  intro F H σ en b x dx rr Q eo rx e q
  cases dx with
  | list ds =>
    obtain ⟨ns, hn, rfl⟩ := mapSome (show (intsOf ds).map _ = some rr from e)
    obtain ⟨p, xs, rfl, r, h | h⟩ := rx.seq (K := X.K) (.inl rfl)
    · have ev := ints_rep (L := L) r hn
      subst ev
      exact ⟨p, ns, rfl, .inl (.of h.2), q _ F H (fun _ _ => rfl) eo .refl (.int _) .no⟩
    · cases h.1
  | tuple ds =>
    obtain ⟨ns, hn, rfl⟩ := mapSome (show (intsOf ds).map _ = some rr from e)
    obtain ⟨p, xs, rfl, r, h | h⟩ := rx.seq (K := X.K) (.inr rfl)
    · cases h.1
    · have ev := ints_rep (L := L) r hn
      subst ev
      exact ⟨p, ns, rfl, .inr (.of h.2), q _ F H (fun _ _ => rfl) eo .refl (.int _) .no⟩
  | _ => cases e
theorem re_sum2 (hc : X.calm = true) (ha : RP X L W a f) (hg : Gl X "sum") (hm : X.mg "sum" = none) (hst : starEach [a] X.env = (false, eval a X.env) :: starEach [] X.env := by rfl) (hpl : (backTo pos (starEach [] X.env)).any (·.1) = false := by rfl) :
    RE X L W (.Call (.Name "sum" p) [a] [] pos) (fz (unM sum2D f)) := rx_fz (rx_b1 (cr_sum2 hc) sum2D_ok (by decide +kernel) ha hg hm (by decide) (by decide) hst hpl)
/-! ### x == [], x != [], x a name: its list may be changed later -/
def nilN (neg : Bool) (i : Nat) : M D := fun en b => match en[i]? with
  | some (some (_, .list ds)) => if SeqAt.shaped (.list ds) then .ok (.bool (if neg then !ds.isEmpty else ds.isEmpty)) en b else .stuck
  | _ => .stuck
theorem eqv_nil2 (ds : List D) : PyData.eqv (.list ds) (.list []) = ds.isEmpty := by cases ds <;> simp [PyData.eqv, PyData.eqvAll]
theorem eqv_nilb (ds : List D) : (if false then !PyData.eqv (.list ds) (.list []) else PyData.eqv (.list ds) (.list [])) = ds.isEmpty := eqv_nil2 ds
theorem EO.at_list {i : Nat} {k : Bool} {ds : List D} (eo : EO L F H σ en b) (h : en[i]? = some (some (k, .list ds))) : ∃ q xs, σ[i]? = some (some (V.ref q)) ∧ H q = some (.lst xs) ∧ Reps L.β F H xs ds := by
  cases k with
  | true =>
    obtain ⟨q, h1, w⟩ := eo.ow i _ h
    obtain ⟨xs, h2, h3⟩ := w.top
    exact ⟨q, xs, h1, h2, h3⟩
  | false =>
    obtain ⟨v, h1, r⟩ := eo.sl i _ h
    cases r with
    | lst f h2 h3 => exact ⟨_, _, h1, h2, h3⟩
theorem nilN_t {neg : Bool} {i : Nat} {op : R2} (ho : ∀ (d : D) (x y : V) (H : Hp) (Q : VK), Dp X.K H x d → Dp X.K H y (.list []) → SeqAt.shaped d = true → Q (.bl (if neg then !PyData.eqv d (.list []) else PyData.eqv d (.list []))) H → op x y H Q) {Q : VK} (k : tD L W (nilN neg i) σ H Q) : tOp op (tVar i) (tLst tNil) σ H Q := by
  obtain ⟨F, en, b, eo, q⟩ := k
  unfold nilN at q
  match h : en[i]? with
  | some (some (k, .list ds)) =>
    rw [h] at q
    dsimp only at q
    by_cases hc : SeqAt.shaped (.list ds) = true
    · rw [if_pos hc] at q
      dsimp only at q
      obtain ⟨a, xs, h1, h2, h3⟩ := eo.at_list h
      refine ⟨_, h1, Nat.zero_le _, fun p hp => ?_⟩
      have g := gr_upd (u := .lst []) hp
      have eo2 := eo.grow g
      obtain ⟨a', xs', k1, k2, k3⟩ := eo2.at_list h
      rw [h1] at k1
      cases k1
      refine ho (.list ds) _ _ _ _ (.lst (.of k2) (Reps.dp k3 (by simpa [PyData.canLay0] using SeqAt.canLay_of_shaped hc))) (.lst (.of upd_same) .nil) hc ?_
      rw [eqv_nil2]
      exact q _ F _ (Stp.grow eo g) eo2 (.bl _)
    · rw [if_neg hc] at q
      exact q.elim
  | some (some (_, .none)) => rw [h] at q; exact q.elim
  | some (some (_, .bool _)) => rw [h] at q; exact q.elim
  | some (some (_, .int _)) => rw [h] at q; exact q.elim
  | some (some (_, .str _)) => rw [h] at q; exact q.elim
  | some (some (_, .tuple _)) => rw [h] at q; exact q.elim
  | some (some (_, .dict _)) => rw [h] at q; exact q.elim
  | some none => rw [h] at q; exact q.elim
  | none => rw [h] at q; exact q.elim
theorem re_nilne {i : Nat} {lp : Pos} (hu : X.A.units + 64 < cLine) (ha : PE X a (tVar i)) : RE X L W (.Compare a [.NotEq] [.List [] lp] pos) (nilN true i) :=
  peImp (pe_cmpR (op_neD hu) ha (pe_lst pa_nil) (nomark _)) fun _ _ _ h => nilN_t (fun d x y H Q h1 h2 h3 q => ⟨d, .list [], h1, h2, h3, rfl, q⟩) h
theorem rt_nilne {i : Nat} {lp : Pos} (hu : X.A.units + 64 < cLine) (ha : PE X a (tVar i)) : RT X L W (.Compare a [.NotEq] [.List [] lp] pos) (bolM (nilN true i)) :=
  rt_of (pt_cmpR (op_neD hu) ha (pe_lst pa_nil) (nomark _)) fun _ _ _ h => nilN_t (fun d x y H Q h1 h2 h3 q => ⟨d, .list [], h1, h2, h3, rfl, q⟩) h
theorem re_nileq {i : Nat} {lp : Pos} (hu : X.A.units + 64 < cLine) (ha : PE X a (tVar i)) : RE X L W (.Compare a [.Eq] [.List [] lp] pos) (nilN false i) :=
  peImp (pe_cmpR (op_eqD hu) ha (pe_lst pa_nil) (nomark _)) fun _ _ _ h => nilN_t (fun d x y H Q h1 h2 h3 q => ⟨d, .list [], h1, h2, h3, rfl, q⟩) h
theorem rt_nileq {i : Nat} {lp : Pos} (hu : X.A.units + 64 < cLine) (ha : PE X a (tVar i)) : RT X L W (.Compare a [.Eq] [.List [] lp] pos) (bolM (nilN false i)) :=
  rt_of (pt_cmpR (op_eqD hu) ha (pe_lst pa_nil) (nomark _)) fun _ _ _ h => nilN_t (fun d x y H Q h1 h2 h3 q => ⟨d, .list [], h1, h2, h3, rfl, q⟩) h
end
end PL
namespace Cw
open PySem PySem.Spec PyProof.Rows L2 PL
/-! mirrors -/
def b_bits_number : M Fl := (seqM (asgM 1 (fr (M.ret (.int 0))))
    (seqM (whileM 100 (bolM (binD gtD (nm 0) (M.ret (.int 0)))) (parM [1, 0] (consR (binM addX (nm 1) (binD andD (nm 0) (M.ret (.int 1)))) (consR (fr (binD shrD (nm 0) (M.ret (.int 1)))) (M.ret [])))))
    (retN 1)))
def f_bits_number : Fn := fnM 1 2 b_bits_number
def b_subsets_of : M Fl := (seqM (asgM 1 (lstM (consM (M.ret (.int 0)) (M.ret []))))
    (seqM (loopM (rg1W (consM (fz (unM bitsD (pk 0))) (M.ret []))) (fun d => setR 2 (false, d)) (ifM (bolM (binD eqD (binD andD (binD shrD (nm 0) (nm 2)) (M.ret (.int 1))) (M.ret (.int 1)))) (asgM 1 (binM addX (nm 1) (fz (lcM [3] (seqW (nm 1)) (fun d => setR 3 (false, d)) (M.ret true) (binD orD (nm 3) (binD shlD (M.ret (.int 1)) (nm 2))))))) (M.ret .nx)))
    (retN 1)))
def f_subsets_of : Fn := fnM 1 4 b_subsets_of
def b_face_corners : M Fl := (retM (fr (fz (unM tupOf (fz (lcM [1] (seqW (fz (callM f_subsets_of [0] 1 0 (consM (ixNm 0 (M.ret (.int 0))) (M.ret [])) (M.ret [])))) (fun d => setR 1 (false, d)) (M.ret true) (binD orD (ixNm 0 (M.ret (.int 1))) (nm 1))))))))
def f_face_corners : Fn := fnM 1 2 b_face_corners
def b_ways_number : M Fl := (retM (fr (binD subD (fz (unM bitsD (fz (unM lenD (pk 0))))) (M.ret (.int 1)))))
def f_ways_number : Fn := fnM 1 1 b_ways_number
def b_low_corners : M Fl := (retM (fr (fz (unM tupOf (fz (lcM [2] (seqW (fz (callM f_face_corners [0] 1 0 (consM (nm 1) (M.ret [])) (M.ret [])))) (fun d => setR 2 (false, d)) (bolM (binD eqD (binD andD (ixNm 0 (nm 2)) (ixNm 1 (M.ret (.int 0)))) (M.ret (.int 0)))) (nm 2)))))))
def f_low_corners : Fn := fnM 2 3 b_low_corners
def b_high_corners : M Fl := (retM (fr (fz (unM tupOf (fz (lcM [2] (seqW (fz (callM f_face_corners [0] 1 0 (consM (nm 1) (M.ret [])) (M.ret [])))) (fun d => setR 2 (false, d)) (bolM (binD eqD (binD andD (ixNm 0 (nm 2)) (ixNm 1 (M.ret (.int 0)))) (ixNm 1 (M.ret (.int 0))))) (nm 2)))))))
def f_high_corners : Fn := fnM 2 3 b_high_corners
def b_corner_named : M Fl := (seqM (ifM (bolM (binD neD (binD andD (nm 2) (fz (unM (i1 Builtin.bitNot) (ixNm 1 (M.ret (.int 0)))))) (M.ret (.int 0)))) stk (M.ret .nx))
    (retM (fr (binD ixD (fz (lcM [3] (seqW (fz (callM f_face_corners [0] 1 0 (consM (nm 1) (M.ret [])) (M.ret [])))) (fun d => setR 3 (false, d)) (bolM (binD eqD (binD andD (ixNm 0 (nm 3)) (ixNm 1 (M.ret (.int 0)))) (nm 2))) (nm 3))) (M.ret (.int 0))))))
def f_corner_named : Fn := fnM 3 4 b_corner_named
def b_leaving_counts : M Fl := (seqM (asgM 2 (binM mulX (fz (lstM (consM (M.ret (.int 0)) (M.ret [])))) (fz (binM addX (fz (callM f_bits_number [0] 1 0 (consM (ixNm 1 (M.ret (.int 0))) (M.ret [])) (M.ret []))) (M.ret (.int 1))))))
    (seqM (loopM (seqW (fz (callM f_face_corners [0] 1 0 (consM (nm 1) (M.ret [])) (M.ret [])))) (fun d => setR 3 (false, d)) (seqM (asgM 4 (callM f_bits_number [0] 1 0 (consM (binD andD (ixNm 0 (nm 3)) (ixNm 1 (M.ret (.int 0)))) (M.ret [])) (M.ret [])))
    (asgI 2 (fz (binM addX (ixNm 2 (nm 4)) (M.ret (.int 1)))) (nm 4))))
    (retM (fr (fz (unM tupOf (pk 2)))))))
def f_leaving_counts : Fn := fnM 2 5 b_leaving_counts
def b_low_of : M Fl := (retM (callM f_corner_named [0, 1, 2] 3 0 (consM (nm 0) (consM (nm 1) (consM (M.ret (.int 0)) (M.ret [])))) (M.ret [])))
def f_low_of : Fn := fnM 2 2 b_low_of
def b_high_of : M Fl := (retM (callM f_corner_named [0, 1, 2] 3 0 (consM (nm 0) (consM (nm 1) (consM (ixNm 1 (M.ret (.int 0))) (M.ret [])))) (M.ret [])))
def f_high_of : Fn := fnM 2 2 b_high_of
def b_lows_had : M Fl := (seqM (asgM 1 (callM f_ways_number [0] 1 0 (consM (nm 0) (M.ret [])) (M.ret [])))
    (retM (fr (fz (unM tupOf (fz (lcM [2] (seqW (nm 0)) (fun d => setR 2 (false, d)) (M.ret true) (binD shlD (M.ret (.int 1)) (binD subD (nm 1) (fz (callM f_bits_number [0] 1 0 (consM (nm 2) (M.ret [])) (M.ret []))))))))))))
def f_lows_had : Fn := fnM 1 3 b_lows_had
def b__law_bag : M Fl := (seqM (asgM 2 (lcM [1] (seqW (fz (scrSl 0 63))) (fun d => setR 1 (false, d)) (M.ret true) (binD modD (fz (unM intD (fz (unM absD (pk 1))))) (binD powD (M.ret (.int 10)) (M.ret (.int 60))))))
    (seqM (asgM 3 (binM addX (M.ret (.int 2468)) (fz (unM lenD (pk 2)))))
    (seqM (loopM (seqW (fz (scrSl 0 63))) (fun d => setR 1 (false, d)) (asgM 3 (fr (binD modD (fz (binM addX (fz (binM addX (fz (binM mulX (nm 3) (M.ret (.int 48271)))) (binD modD (fz (unM intD (pk 1))) (M.ret (.int 2147483629))))) (M.ret (.int 7)))) (M.ret (.int 2147483647))))))
    (retM (lstM (consM (fz (unM revD (fz (unM lstOf (pk 2))))) (consM (M.ret (.int 0)) (consM (nm 3) (M.ret [])))))))))
def f__law_bag : Fn := fnM 1 4 b__law_bag
def b__law_draw : M Fl := (seqM (whileM 100 (PL.andM (bolM (binD eqD (bagCur 0) (M.ret (.int 0)))) (bagMore 0)) (seqM (asgM 2 (fr (bagPop 0)))
    (bagSetCur 0 (fz (iteM (bolM (binD gtD (nm 2) (binD powD (M.ret (.int 10)) (M.ret (.int 9))))) (fr (nm 2)) (fr (M.ret (.int 0))))))))
    (seqM (ifM (bolM (binD gtD (bagCur 0) (M.ret (.int 0)))) (seqM (asgM 3 (fr (binD modD (fz (unM intD (bagCur 0))) (nm 1))))
    (seqM (bagSetCur 0 (binD fdivD (bagCur 0) (nm 1)))
    (retN 3))) (M.ret .nx))
    (seqM (bagSetMix 0 (binD modD (fz (binM addX (fz (binM mulX (bagMix 0) (M.ret (.int 48271)))) (M.ret (.int 11)))) (M.ret (.int 2147483647))))
    (retM (fr (binD modD (binD fdivD (binD modD (fz (unM intD (fz (binM mulX (bagMix 0) (bagMix 0))))) (M.ret (.int 2147483629))) (M.ret (.int 7))) (nm 1)))))))
def f__law_draw : Fn := fnM 2 4 b__law_draw
def b__law_pick : M Fl := (retM (fr (ixNm 1 (fz (callM f__law_draw [0, 1] 2 0 (consM (nm 0) (consM (fz (unM lenD (pk 1))) (M.ret []))) (M.ret []))))))
def f__law_pick : Fn := fnM 2 2 b__law_pick
def b__law_same : M Fl := (retM (fr (andV (binD eqD (fz (unM reprD (pk 0))) (fz (unM reprD (pk 1)))) (binD eqD (nm 0) (nm 1)))))
def f__law_same : Fn := fnM 2 2 b__law_same
def b__law_size : M Fl := (seqM (asgM 1 (callM f__law_draw [0, 1] 2 0 (consM (nm 0) (consM (M.ret (.int 40)) (M.ret []))) (M.ret [])))
    (seqM (ifM (bolM (binD ltD (nm 1) (M.ret (.int 6)))) (retM (fr (binD ixD (fz (lstM (consM (M.ret (.int 6)) (consM (M.ret (.int 5)) (consM (M.ret (.int 5)) (consM (M.ret (.int 0)) (consM (M.ret (.int 1)) (consM (M.ret (.int 1)) (M.ret []))))))))) (nm 1)))) (M.ret .nx))
    (retM (iteM (bolM (binD ltD (nm 1) (M.ret (.int 13)))) (fr (M.ret (.int 2))) (iteM (bolM (binD ltD (nm 1) (M.ret (.int 27)))) (fr (M.ret (.int 3))) (fr (M.ret (.int 4))))))))
def f__law_size : Fn := fnM 1 2 b__law_size
def b__law_order : M Fl := (seqM (ifM (PL.andM (bolM (binD gtD (nm 1) (M.ret (.int 0)))) (bolM (binD eqD (fz (callM f__law_draw [0, 1] 2 0 (consM (nm 0) (consM (M.ret (.int 2)) (M.ret []))) (M.ret []))) (M.ret (.int 0))))) (seqM (asgM 2 (binM addX (M.ret (.int 1)) (fz (callM f__law_draw [0, 1] 2 0 (consM (nm 0) (consM (nm 1) (M.ret []))) (M.ret [])))))
    (retM (fr (fz (unM tupOf (fz (lcM [3] (rg1W (consM (nm 1) (M.ret []))) (fun d => setR 3 (false, d)) (M.ret true) (binD modD (fz (unM intD (fz (binM addX (nm 3) (nm 2))))) (nm 1))))))))) (M.ret .nx))
    (seqM (parM [4, 5] (consR (lrgM (nm 1)) (consR (lstM (M.ret [])) (M.ret []))))
    (seqM (loopM (rg1W (consM (nm 1) (M.ret []))) (fun d => setR 6 (false, d)) (dropM (methM 5 oAppend (consM (methM 4 oPopAt (consM (fz (callM f__law_draw [0, 1] 2 0 (consM (nm 0) (consM (fz (unM lenD (pk 4))) (M.ret []))) (M.ret []))) (M.ret []))) (M.ret [])))))
    (retM (fr (fz (unM tupOf (pk 5))))))))
def f__law_order : Fn := fnM 2 7 b__law_order
def b__law_ordered : M Fl := (seqM (parM [2, 3] (consR (lstM (consM (M.ret (.int 0)) (M.ret []))) (consR (binM mulX (fz (lstM (consM (M.ret (.int 0)) (M.ret [])))) (fz (unM lenD (pk 0)))) (M.ret []))))
    (seqM (loopM (seqW (nm 1)) (fun d => setR 4 (false, d)) (asgM 2 (binM addX (nm 2) (fz (lcM [5] (seqW (nm 2)) (fun d => setR 5 (false, d)) (M.ret true) (binD orD (nm 5) (binD shlD (M.ret (.int 1)) (nm 4))))))))
    (seqM (loopM (enW2 (consM (nm 0) (M.ret []))) (tupG 2 (consG (fun d => setR 6 (false, d)) (consG (fun d => setR 5 (false, d)) nilG))) (asgI 3 (ixNm 2 (nm 5)) (ixNm 2 (nm 6))))
    (retM (fr (fz (unM tupOf (pk 3))))))))
def f__law_ordered : Fn := fnM 2 7 b__law_ordered
def b__law_moved : M Fl := (seqM (asgM 3 (callM f__law_ordered [0, 1] 2 0 (consM (nm 0) (consM (nm 1) (M.ret []))) (M.ret [])))
    (retM (fr (fz (unM tupOf (fz (lcM [4] (rg1W (consM (fz (unM lenD (pk 3))) (M.ret []))) (fun d => setR 4 (false, d)) (M.ret true) (ixNm 3 (binD xorD (nm 4) (nm 2))))))))))
def f__law_moved : Fn := fnM 3 5 b__law_moved
def b__law_merged : M Fl := (seqM (asgM 2 (unM lstOf (pk 0)))
    (seqM (loopM (seqW (nm 1)) (tupG 2 (consG (fun d => setR 3 (false, d)) (consG (fun d => setR 4 (false, d)) nilG))) (seqM (parM [5, 6] (consR (fr (ixNm 2 (nm 3))) (consR (fr (ixNm 2 (nm 4))) (M.ret []))))
    (ifM (bolM (binD neD (nm 5) (nm 6))) (asgM 2 (lcM [7] (seqW (nm 2)) (fun d => setR 7 (false, d)) (M.ret true) (fz (iteM (bolM (binD eqD (nm 7) (nm 6))) (fr (nm 5)) (fr (nm 7)))))) (M.ret .nx))))
    (retN 2)))
def f__law_merged : Fn := fnM 2 8 b__law_merged
def b__law_tied : M Fl := (seqM (asgM 2 (lstM (M.ret [])))
    (seqM (loopM (rg1W (consM (fz (unM lenD (pk 0))) (M.ret []))) (fun d => setR 3 (false, d)) (loopM (rg2W (consM (fz (binM addX (nm 3) (M.ret (.int 1)))) (consM (fz (unM lenD (pk 0))) (M.ret [])))) (fun d => setR 4 (false, d)) (ifM (PL.orM (bolM (binD eqD (binD andD (binD xorD (nm 3) (nm 4)) (binD xorD (ixNm 0 (nm 3)) (ixNm 1 (nm 4)))) (M.ret (.int 0)))) (bolM (binD eqD (binD andD (binD xorD (nm 3) (nm 4)) (binD xorD (ixNm 0 (nm 4)) (ixNm 1 (nm 3)))) (M.ret (.int 0))))) (dropM (methM 2 oAppend (consM (tupM (consM (nm 3) (consM (nm 4) (M.ret [])))) (M.ret [])))) (M.ret .nx))))
    (retN 2)))
def f__law_tied : Fn := fnM 2 5 b__law_tied
def b__law_class_turned : M Fl := (seqM (parM [3, 4] (consR (fr (binD shlD (M.ret (.int 1)) (fz (callM f__law_draw [0, 1] 2 0 (consM (nm 0) (consM (nm 2) (M.ret []))) (M.ret []))))) (consR (lstM (M.ret [])) (M.ret []))))
    (seqM (loopM (rg1W (consM (fz (unM lenD (pk 1))) (M.ret []))) (fun d => setR 5 (false, d)) (loopM (rg2W (consM (fz (binM addX (nm 5) (M.ret (.int 1)))) (consM (fz (unM lenD (pk 1))) (M.ret [])))) (fun d => setR 6 (false, d)) (ifM (bolM (binD eqD (binD andD (binD xorD (nm 5) (nm 6)) (binD xorD (ixNm 1 (nm 5)) (ixNm 1 (nm 6)))) (nm 3))) (dropM (methM 4 oAppend (consM (tupM (consM (nm 5) (consM (nm 6) (M.ret [])))) (M.ret [])))) (M.ret .nx))))
    (seqM (asgM 4 (binM addX (nm 4) (fz (lcM [5] (rg1W (consM (fz (unM lenD (pk 1))) (M.ret []))) (fun d => setR 5 (false, d)) (M.ret true) (tupM (consM (nm 5) (consM (binD xorD (nm 5) (nm 3)) (M.ret []))))))))
    (seqM (asgM 7 (callM f__law_merged [0, 1] 2 0 (consM (fz (lrgM (fz (unM lenD (pk 1))))) (consM (nm 4) (M.ret []))) (M.ret [])))
    (seqM (asgM 8 (fr (ixNm 7 (fz (callM f__law_draw [0, 1] 2 0 (consM (nm 0) (consM (fz (unM lenD (pk 1))) (M.ret []))) (M.ret []))))))
    (retM (fr (fz (unM tupOf (fz (lcM [5] (rg1W (consM (fz (unM lenD (pk 1))) (M.ret []))) (fun d => setR 5 (false, d)) (M.ret true) (fz (iteM (bolM (binD eqD (ixNm 7 (nm 5)) (nm 8))) (fr (binD xorD (ixNm 1 (nm 5)) (nm 3))) (fr (ixNm 1 (nm 5))))))))))))))))
def f__law_class_turned : Fn := fnM 3 9 b__law_class_turned
def b__law_joined (f__law_joined : Fn) : M Fl := (seqM (ifM (bolM (binD eqD (nm 1) (M.ret (.int 0)))) (retM (fr (tupM (consM (M.ret (.int 0)) (M.ret []))))) (M.ret .nx))
    (seqM (ifM (PL.andM (bolM (binD eqD (nm 1) (M.ret (.int 3)))) (bolM (binD eqD (fz (callM f__law_draw [0, 1] 2 0 (consM (nm 0) (consM (M.ret (.int 6)) (M.ret []))) (M.ret []))) (M.ret (.int 0))))) (seqM (asgM 2 (callM f__law_pick [0, 1] 2 0 (consM (nm 0) (consM (fz (lstM (consM (tupM (consM (M.ret (.int 1)) (consM (M.ret (.int 6)) (consM (M.ret (.int 3)) (consM (M.ret (.int 0)) (consM (M.ret (.int 7)) (consM (M.ret (.int 2)) (consM (M.ret (.int 4)) (consM (M.ret (.int 5)) (M.ret [])))))))))) (consM (tupM (consM (M.ret (.int 7)) (consM (M.ret (.int 0)) (consM (M.ret (.int 1)) (consM (M.ret (.int 2)) (consM (M.ret (.int 3)) (consM (M.ret (.int 6)) (consM (M.ret (.int 4)) (consM (M.ret (.int 5)) (M.ret [])))))))))) (consM (tupM (consM (M.ret (.int 0)) (consM (M.ret (.int 1)) (consM (M.ret (.int 3)) (consM (M.ret (.int 2)) (consM (M.ret (.int 7)) (consM (M.ret (.int 6)) (consM (M.ret (.int 4)) (consM (M.ret (.int 5)) (M.ret [])))))))))) (M.ret [])))))) (M.ret []))) (M.ret [])))
    (retM (callM f__law_moved [0, 1, 2] 3 0 (consM (nm 2) (consM (fz (callM f__law_order [0, 1] 2 0 (consM (nm 0) (consM (M.ret (.int 3)) (M.ret []))) (M.ret []))) (consM (fz (callM f__law_draw [0, 1] 2 0 (consM (nm 0) (consM (M.ret (.int 8)) (M.ret []))) (M.ret []))) (M.ret [])))) (M.ret [])))) (M.ret .nx))
    (seqM (parM [3, 4] (consR (callM f__law_joined [0, 1] 2 0 (consM (nm 0) (consM (binD subD (nm 1) (M.ret (.int 1))) (M.ret []))) (M.ret [])) (consR (callM f__law_draw [0, 1] 2 0 (consM (nm 0) (consM (M.ret (.int 4)) (M.ret []))) (M.ret [])) (M.ret []))))
    (seqM (asgM 5 (fr (nm 3)))
    (seqM (ifM (PL.andM (bolM (binD eqD (nm 4) (M.ret (.int 1)))) (bolM (binD gtD (nm 1) (M.ret (.int 1))))) (asgM 5 (callM f__law_class_turned [0, 1, 2] 3 0 (consM (nm 0) (consM (nm 3) (consM (binD subD (nm 1) (M.ret (.int 1))) (M.ret [])))) (M.ret []))) (ifM (bolM (binD gtD (nm 4) (M.ret (.int 1)))) (asgM 5 (callM f__law_joined [0, 1] 2 0 (consM (nm 0) (consM (binD subD (nm 1) (M.ret (.int 1))) (M.ret []))) (M.ret []))) (M.ret .nx)))
    (seqM (asgM 6 (callM f__law_merged [0, 1] 2 0 (consM (fz (lrgM (fz (unM lenD (pk 3))))) (consM (fz (callM f__law_tied [0, 1] 2 0 (consM (nm 3) (consM (nm 5) (M.ret []))) (M.ret []))) (M.ret []))) (M.ret [])))
    (seqM (asgM 8 (lcM [7] (seqW (nm 6)) (fun d => setR 7 (false, d)) (M.ret true) (binD shlD (fz (callM f__law_draw [0, 1] 2 0 (consM (nm 0) (consM (M.ret (.int 2)) (M.ret []))) (M.ret []))) (binD subD (nm 1) (M.ret (.int 1))))))
    (seqM (asgM 9 (fr (binD shlD (M.ret (.int 1)) (binD subD (nm 1) (M.ret (.int 1))))))
    (seqM (asgM 11 (lcM [10] (rg1W (consM (fz (unM lenD (pk 3))) (M.ret []))) (fun d => setR 10 (false, d)) (M.ret true) (binD orD (ixNm 3 (nm 10)) (ixNm 8 (ixNm 6 (nm 10))))))
    (retM (fr (fz (unM tupOf (fz (binM addX (nm 11) (fz (lcM [10] (rg1W (consM (fz (unM lenD (pk 5))) (M.ret []))) (fun d => setR 10 (false, d)) (M.ret true) (binD orD (ixNm 5 (nm 10)) (binD subD (nm 9) (ixNm 8 (ixNm 6 (nm 10))))))))))))))))))))))
def f__law_joined_k : Nat → Fn
  | 0 => fun _ _ => .stuck
  | k + 1 => fnM 2 12 (b__law_joined (f__law_joined_k k))
def f__law_joined : Fn := f__law_joined_k 8
def b__law_good : M Fl := (seqM (asgM 2 (callM f__law_joined [0, 1] 2 0 (consM (nm 0) (consM (nm 1) (M.ret []))) (M.ret [])))
    (seqM (loopM (rg1W (consM (fz (callM f__law_draw [0, 1] 2 0 (consM (nm 0) (consM (fz (iteM (bolM (binD ltD (nm 1) (M.ret (.int 5)))) (fr (M.ret (.int 3))) (fr (M.ret (.int 1))))) (M.ret []))) (M.ret []))) (M.ret []))) (fun d => setR 3 (false, d)) (ifM (bolM (binD gtD (nm 1) (M.ret (.int 0)))) (asgM 2 (callM f__law_class_turned [0, 1, 2] 3 0 (consM (nm 0) (consM (nm 2) (consM (nm 1) (M.ret [])))) (M.ret []))) (M.ret .nx)))
    (seqM (ifM (bolM (binD eqD (fz (callM f__law_draw [0, 1] 2 0 (consM (nm 0) (consM (M.ret (.int 2)) (M.ret []))) (M.ret []))) (M.ret (.int 0)))) (asgM 2 (callM f__law_moved [0, 1, 2] 3 0 (consM (nm 2) (consM (fz (callM f__law_order [0, 1] 2 0 (consM (nm 0) (consM (nm 1) (M.ret []))) (M.ret []))) (consM (fz (callM f__law_draw [0, 1] 2 0 (consM (nm 0) (consM (fz (unM lenD (pk 2))) (M.ret []))) (M.ret []))) (M.ret [])))) (M.ret []))) (M.ret .nx))
    (retN 2))))
def f__law_good : Fn := fnM 2 4 b__law_good
def b__law_arrows : M Fl := (seqM (asgM 2 (binM mulX (fz (lstM (consM (M.ret (.int 0)) (M.ret [])))) (binD shlD (M.ret (.int 1)) (nm 1))))
    (seqM (loopM (rg1W (consM (nm 1) (M.ret []))) (fun d => setR 3 (false, d)) (loopM (rg1W (consM (binD shlD (M.ret (.int 1)) (nm 1)) (M.ret []))) (fun d => setR 4 (false, d)) (ifM (bolM (binD eqD (binD andD (binD shrD (nm 4) (nm 3)) (M.ret (.int 1))) (M.ret (.int 0)))) (seqM (asgM 5 (fr (binD orD (nm 4) (binD shlD (fz (callM f__law_draw [0, 1] 2 0 (consM (nm 0) (consM (M.ret (.int 2)) (M.ret []))) (M.ret []))) (nm 3)))))
    (asgI 2 (binD orD (ixNm 2 (nm 5)) (binD shlD (M.ret (.int 1)) (nm 3))) (nm 5))) (M.ret .nx))))
    (retM (fr (fz (unM tupOf (pk 2)))))))
def f__law_arrows : Fn := fnM 2 6 b__law_arrows
def b__law_corners : M Fl := (seqM (asgM 1 (lstM (consM (ixNm 0 (M.ret (.int 1))) (M.ret []))))
    (seqM (loopM (rg1W (consM (M.ret (.int 6)) (M.ret []))) (fun d => setR 2 (false, d)) (ifM (bolM (binD eqD (binD andD (binD shrD (ixNm 0 (M.ret (.int 0))) (nm 2)) (M.ret (.int 1))) (M.ret (.int 1)))) (asgM 1 (binM addX (nm 1) (fz (lcM [3] (seqW (nm 1)) (fun d => setR 3 (false, d)) (M.ret true) (binD orD (nm 3) (binD shlD (M.ret (.int 1)) (nm 2))))))) (M.ret .nx)))
    (retM (unM sortD (pk 1)))))
def f__law_corners : Fn := fnM 1 4 b__law_corners
def b__law_many : M Fl := (retM (fr (fz (unM sum2D (fz (lcM [1] (rg1W (consM (M.ret (.int 6)) (M.ret []))) (fun d => setR 1 (false, d)) (M.ret true) (binD andD (binD shrD (nm 0) (nm 1)) (M.ret (.int 1)))))))))
def f__law_many : Fn := fnM 1 2 b__law_many
def b__law_lows : M Fl := (retM (fr (fz (unM tupOf (fz (lcM [2] (seqW (fz (callM f__law_corners [0] 1 0 (consM (nm 1) (M.ret [])) (M.ret [])))) (fun d => setR 2 (false, d)) (bolM (binD eqD (binD andD (ixNm 0 (nm 2)) (ixNm 1 (M.ret (.int 0)))) (M.ret (.int 0)))) (nm 2)))))))
def f__law_lows : Fn := fnM 2 3 b__law_lows
def b__law_highs : M Fl := (retM (fr (fz (unM tupOf (fz (lcM [2] (seqW (fz (callM f__law_corners [0] 1 0 (consM (nm 1) (M.ret [])) (M.ret [])))) (fun d => setR 2 (false, d)) (bolM (binD eqD (binD andD (ixNm 0 (nm 2)) (ixNm 1 (M.ret (.int 0)))) (ixNm 1 (M.ret (.int 0))))) (nm 2)))))))
def f__law_highs : Fn := fnM 2 3 b__law_highs
def b__law_binomials : M Fl := (seqM (asgM 1 (lstM (consM (M.ret (.int 1)) (M.ret []))))
    (seqM (loopM (rg1W (consM (nm 0) (M.ret []))) (fun d => setR 2 (false, d)) (asgM 1 (binM addX (fz (binM addX (fz (lstM (consM (M.ret (.int 1)) (M.ret [])))) (fz (lcM [3] (rg1W (consM (binD subD (fz (unM lenD (pk 1))) (M.ret (.int 1))) (M.ret []))) (fun d => setR 3 (false, d)) (M.ret true) (fz (binM addX (ixNm 1 (nm 3)) (ixNm 1 (fz (binM addX (nm 3) (M.ret (.int 1))))))))))) (fz (lstM (consM (M.ret (.int 1)) (M.ret [])))))))
    (retM (fr (fz (unM tupOf (pk 1)))))))
def f__law_binomials : Fn := fnM 1 4 b__law_binomials
def b__law_faces : M Fl := (seqM (asgM 2 (fr (binD subD (binD shlD (M.ret (.int 1)) (nm 1)) (M.ret (.int 1)))))
    (seqM (ifM (bolM (binD ltD (nm 1) (M.ret (.int 4)))) (seqM (asgM 3 (lstM (M.ret [])))
    (seqM (loopM (rg1W (consM (binD shlD (M.ret (.int 1)) (nm 1)) (M.ret []))) (fun d => setR 4 (false, d)) (dropM (methM 3 oExtend (consM (fz (lcM [5] (rg1W (consM (binD shlD (M.ret (.int 1)) (nm 1)) (M.ret []))) (fun d => setR 5 (false, d)) (bolM (binD eqD (binD andD (nm 4) (nm 5)) (M.ret (.int 0)))) (tupM (consM (nm 4) (consM (nm 5) (M.ret [])))))) (M.ret [])))))
    (retN 3))) (M.ret .nx))
    (seqM (asgM 3 (lstM (consM (tupM (consM (nm 2) (consM (M.ret (.int 0)) (M.ret [])))) (consM (tupM (consM (M.ret (.int 0)) (consM (fz (callM f__law_draw [0, 1] 2 0 (consM (nm 0) (consM (binD shlD (M.ret (.int 1)) (nm 1)) (M.ret []))) (M.ret []))) (M.ret [])))) (M.ret [])))))
    (seqM (loopM (rg1W (consM (binD ixD (fz (lstM (consM (M.ret (.int 20)) (consM (M.ret (.int 12)) (consM (M.ret (.int 8)) (M.ret [])))))) (binD subD (nm 1) (M.ret (.int 4)))) (M.ret []))) (fun d => setR 6 (false, d)) (seqM (asgM 4 (callM f__law_draw [0, 1] 2 0 (consM (nm 0) (consM (binD shlD (M.ret (.int 1)) (nm 1)) (M.ret []))) (M.ret [])))
    (dropM (methM 3 oAppend (consM (tupM (consM (nm 4) (consM (binD andD (fz (callM f__law_draw [0, 1] 2 0 (consM (nm 0) (consM (binD shlD (M.ret (.int 1)) (nm 1)) (M.ret []))) (M.ret []))) (binD subD (nm 2) (nm 4))) (M.ret [])))) (M.ret []))))))
    (retN 3)))))
def f__law_faces : Fn := fnM 2 7 b__law_faces
def b__law_is_face_right : M Fl := (seqM (parM [3, 4] (consR (fr (binD ixD (fz (callM f__law_lows [0, 1] 2 0 (consM (nm 0) (consM (nm 1) (M.ret []))) (M.ret []))) (M.ret (.int 0)))) (consR (fr (binD ixD (fz (callM f__law_highs [0, 1] 2 0 (consM (nm 0) (consM (nm 1) (M.ret []))) (M.ret []))) (M.ret (.int 0)))) (M.ret []))))
    (seqM (asgM 5 (lstM (consM (nm 3) (consM (nm 4) (consM (fz (callM f__law_binomials [0] 1 0 (consM (fz (callM f__law_many [0] 1 0 (consM (ixNm 1 (M.ret (.int 0))) (M.ret [])) (M.ret []))) (M.ret [])) (M.ret []))) (consM (tupM (consM (nm 3) (M.ret []))) (consM (tupM (consM (nm 4) (M.ret []))) (M.ret []))))))))
    (seqM (ifM (bolM (binD eqD (nm 2) (M.ret (.int 0)))) (seqM (asgM 6 (lstM (consM (fz (callM f_low_of [0, 1] 2 0 (consM (nm 0) (consM (nm 1) (M.ret []))) (M.ret []))) (consM (fz (callM f_high_of [0, 1] 2 0 (consM (nm 0) (consM (nm 1) (M.ret []))) (M.ret []))) (consM (fz (callM f_leaving_counts [0, 1] 2 0 (consM (nm 0) (consM (nm 1) (M.ret []))) (M.ret []))) (M.ret []))))))
    (asgM 6 (binM addX (nm 6) (fz (lstM (consM (fz (callM f_low_corners [0, 1] 2 0 (consM (nm 0) (consM (nm 1) (M.ret []))) (M.ret []))) (consM (fz (callM f_high_corners [0, 1] 2 0 (consM (nm 0) (consM (nm 1) (M.ret []))) (M.ret []))) (M.ret [])))))))) (seqM (asgM 6 (lstM (consM (fz (callM f_low_of [0, 1] 0 2 (M.ret []) (consM (nm 0) (consM (nm 1) (M.ret []))))) (consM (fz (callM f_high_of [1, 0] 0 2 (M.ret []) (consM (nm 1) (consM (nm 0) (M.ret []))))) (consM (fz (callM f_leaving_counts [0, 1] 0 2 (M.ret []) (consM (nm 0) (consM (nm 1) (M.ret []))))) (M.ret []))))))
    (asgM 6 (binM addX (nm 6) (fz (lstM (consM (fz (callM f_low_corners [0, 1] 0 2 (M.ret []) (consM (nm 0) (consM (nm 1) (M.ret []))))) (consM (fz (callM f_high_corners [1, 0] 0 2 (M.ret []) (consM (nm 1) (consM (nm 0) (M.ret []))))) (M.ret [])))))))))
    (retM (callM f__law_same [0, 1] 2 0 (consM (nm 6) (consM (nm 5) (M.ret []))) (M.ret []))))))
def f__law_is_face_right : Fn := fnM 3 7 b__law_is_face_right
def b__law_is_named_right : M Fl := (seqM (asgM 3 (lstM (consM (binD ixD (fz (callM f__law_lows [0, 1] 2 0 (consM (nm 0) (consM (nm 1) (M.ret []))) (M.ret []))) (M.ret (.int 0))) (consM (binD ixD (fz (callM f__law_highs [0, 1] 2 0 (consM (nm 0) (consM (nm 1) (M.ret []))) (M.ret []))) (M.ret (.int 0))) (M.ret [])))))
    (seqM (ifM (bolM (binD eqD (nm 2) (M.ret (.int 0)))) (asgM 4 (lstM (consM (fz (callM f_corner_named [0, 1, 2] 3 0 (consM (nm 0) (consM (nm 1) (consM (M.ret (.int 0)) (M.ret [])))) (M.ret []))) (consM (fz (callM f_corner_named [0, 1, 2] 3 0 (consM (nm 0) (consM (nm 1) (consM (ixNm 1 (M.ret (.int 0))) (M.ret [])))) (M.ret []))) (M.ret []))))) (asgM 4 (lstM (consM (fz (callM f_corner_named [0, 1, 2] 0 3 (M.ret []) (consM (nm 0) (consM (nm 1) (consM (M.ret (.int 0)) (M.ret [])))))) (consM (fz (callM f_corner_named [2, 0, 1] 0 3 (M.ret []) (consM (nm 1) (consM (ixNm 1 (M.ret (.int 0))) (consM (nm 0) (M.ret [])))))) (M.ret []))))))
    (retM (callM f__law_same [0, 1] 2 0 (consM (nm 4) (consM (nm 3) (M.ret []))) (M.ret [])))))
def f__law_is_named_right : Fn := fnM 3 5 b__law_is_named_right
def b__law_is_within_right : M Fl := (seqM (asgM 3 (fr (binD subD (binD shlD (M.ret (.int 1)) (nm 2)) (M.ret (.int 1)))))
    (seqM (asgM 4 (iteM (bolM (binD eqD (fz (callM f__law_draw [0, 1] 2 0 (consM (nm 0) (consM (M.ret (.int 3)) (M.ret []))) (M.ret []))) (M.ret (.int 0)))) (fr (nm 3)) (callM f__law_draw [0, 1] 2 0 (consM (nm 0) (consM (binD shlD (M.ret (.int 1)) (nm 2)) (M.ret []))) (M.ret []))))
    (seqM (asgM 5 (fr (tupM (consM (nm 4) (consM (binD andD (fz (callM f__law_draw [0, 1] 2 0 (consM (nm 0) (consM (binD shlD (M.ret (.int 1)) (nm 2)) (M.ret []))) (M.ret []))) (binD subD (nm 3) (nm 4))) (M.ret []))))))
    (seqM (parM [6, 7] (consR (fr (binD ixD (fz (callM f__law_lows [0, 1] 2 0 (consM (nm 1) (consM (nm 5) (M.ret []))) (M.ret []))) (M.ret (.int 0)))) (consR (fr (binD ixD (fz (callM f__law_highs [0, 1] 2 0 (consM (nm 1) (consM (nm 5) (M.ret []))) (M.ret []))) (M.ret (.int 0)))) (M.ret []))))
    (seqM (ifM (PL.notM (truM (fz (callM f__law_same [0, 1] 2 0 (consM (fz (lstM (consM (fz (callM f_low_of [0, 1] 2 0 (consM (nm 1) (consM (nm 5) (M.ret []))) (M.ret []))) (consM (fz (callM f_high_of [0, 1] 2 0 (consM (nm 1) (consM (nm 5) (M.ret []))) (M.ret []))) (M.ret []))))) (consM (fz (lstM (consM (nm 6) (consM (nm 7) (M.ret []))))) (M.ret []))) (M.ret []))))) (retM (fr (M.ret (.bool false)))) (M.ret .nx))
    (seqM (loopM (enW2 (consM (fz (lstM (consM (nm 6) (consM (nm 7) (consM (fz (callM f__law_pick [0, 1] 2 0 (consM (nm 0) (consM (fz (callM f__law_corners [0] 1 0 (consM (nm 5) (M.ret [])) (M.ret []))) (M.ret []))) (M.ret []))) (M.ret [])))))) (M.ret []))) (tupG 2 (consG (fun d => setR 8 (false, d)) (consG (fun d => setR 9 (false, d)) nilG))) (seqM (asgM 10 (fr (nm 5)))
    (loopM (rg1W (consM (M.ret (.int 2)) (M.ret []))) (fun d => setR 11 (false, d)) (seqM (asgM 12 (fr (binD andD (ixNm 10 (M.ret (.int 0))) (binD orD (fz (callM f__law_draw [0, 1] 2 0 (consM (nm 0) (consM (binD shlD (M.ret (.int 1)) (nm 2)) (M.ret []))) (M.ret []))) (fz (callM f__law_draw [0, 1] 2 0 (consM (nm 0) (consM (binD shlD (M.ret (.int 1)) (nm 2)) (M.ret []))) (M.ret [])))))))
    (seqM (asgM 10 (fr (tupM (consM (nm 12) (consM (binD andD (nm 9) (binD subD (nm 3) (nm 12))) (M.ret []))))))
    (seqM (asgM 13 (lstM (consM (fz (callM f_low_of [0, 1] 2 0 (consM (nm 1) (consM (nm 10) (M.ret []))) (M.ret []))) (consM (fz (callM f_high_of [0, 1] 2 0 (consM (nm 1) (consM (nm 10) (M.ret []))) (M.ret []))) (M.ret [])))))
    (seqM (ifM (PL.andM (bolM (binD ltD (nm 8) (M.ret (.int 2)))) (PL.notM (truM (fz (callM f__law_same [0, 1] 2 0 (consM (ixNm 13 (nm 8)) (consM (nm 9) (M.ret []))) (M.ret [])))))) (retM (fr (M.ret (.bool false)))) (M.ret .nx))
    (ifM (PL.notM (truM (fz (callM f__law_same [0, 1] 2 0 (consM (nm 13) (consM (fz (lstM (consM (binD ixD (fz (callM f__law_lows [0, 1] 2 0 (consM (nm 1) (consM (nm 10) (M.ret []))) (M.ret []))) (M.ret (.int 0))) (consM (binD ixD (fz (callM f__law_highs [0, 1] 2 0 (consM (nm 1) (consM (nm 10) (M.ret []))) (M.ret []))) (M.ret (.int 0))) (M.ret []))))) (M.ret []))) (M.ret []))))) (retM (fr (M.ret (.bool false)))) (M.ret .nx)))))))))
    (retM (fr (M.ret (.bool true))))))))))
def f__law_is_within_right : Fn := fnM 3 14 b__law_is_within_right
def b__law_is_had_right : M Fl := (seqM (asgM 4 (fr (fz (unM tupOf (fz (lcM [3] (seqW (nm 0)) (fun d => setR 3 (false, d)) (M.ret true) (binD shlD (M.ret (.int 1)) (binD subD (nm 1) (fz (callM f__law_many [0] 1 0 (consM (nm 3) (M.ret [])) (M.ret [])))))))))))
    (seqM (asgM 5 (iteM (bolM (binD eqD (nm 2) (M.ret (.int 0)))) (callM f_lows_had [0] 1 0 (consM (nm 0) (M.ret [])) (M.ret [])) (callM f_lows_had [0] 0 1 (M.ret []) (consM (nm 0) (M.ret [])))))
    (seqM (asgM 6 (fr (M.ret (.int 1))))
    (seqM (loopM (rg1W (consM (nm 1) (M.ret []))) (fun d => setR 7 (false, d)) (asgM 6 (binM mulX (nm 6) (M.ret (.int 3)))))
    (retM (fr (andV (fz (callM f__law_same [0, 1] 2 0 (consM (nm 5) (consM (nm 4) (M.ret []))) (M.ret []))) (binD eqD (fz (unM sum2D (pk 5))) (nm 6)))))))))
def f__law_is_had_right : Fn := fnM 3 8 b__law_is_had_right
def b_law : M Fl := (seqM (asgM 2 (callM f__law_size [0] 1 0 (consM (nm 1) (M.ret [])) (M.ret [])))
    (seqM (asgM 3 (lstM (consM (fz (callM f__law_good [0, 1] 2 0 (consM (nm 1) (consM (nm 2) (M.ret []))) (M.ret []))) (M.ret []))))
    (seqM (asgM 4 (fr (orV (binD gtD (nm 2) (M.ret (.int 4))) (andV (binD gtD (nm 2) (M.ret (.int 0))) (binD eqD (fz (callM f__law_draw [0, 1] 2 0 (consM (nm 1) (consM (M.ret (.int 2)) (M.ret []))) (M.ret []))) (M.ret (.int 0)))))))
    (seqM (dropM (methM 3 oAppend (consM (fz (iteM (truM (pk 4)) (callM f__law_class_turned [0, 1, 2] 3 0 (consM (nm 1) (consM (ixNm 3 (M.ret (.int 0))) (consM (nm 2) (M.ret [])))) (M.ret [])) (callM f__law_good [0, 1] 2 0 (consM (nm 1) (consM (nm 2) (M.ret []))) (M.ret [])))) (M.ret []))))
    (seqM (parM [5, 6] (consR (callM f__law_arrows [0, 1] 2 0 (consM (nm 1) (consM (nm 2) (M.ret []))) (M.ret [])) (consR (callM f__law_faces [0, 1] 2 0 (consM (nm 1) (consM (nm 2) (M.ret []))) (M.ret [])) (M.ret []))))
    (seqM (loopM (enW2 (consM (nm 6) (M.ret []))) (tupG 2 (consG (fun d => setR 7 (false, d)) (consG (fun d => setR 8 (false, d)) nilG))) (seqM (loopM (seqW (nm 3)) (fun d => setR 9 (false, d)) (ifM (PL.orM (PL.notM (truM (fz (callM f__law_is_face_right [0, 1, 2] 3 0 (consM (nm 9) (consM (nm 8) (consM (binD andD (nm 7) (M.ret (.int 1))) (M.ret [])))) (M.ret []))))) (PL.notM (truM (fz (callM f__law_is_named_right [0, 1, 2] 3 0 (consM (nm 9) (consM (nm 8) (consM (binD andD (nm 7) (M.ret (.int 1))) (M.ret [])))) (M.ret [])))))) (retM (fr (M.ret (.bool false)))) (M.ret .nx)))
    (seqM (asgM 10 (lstM (consM (fz (callM f_low_corners [0, 1] 2 0 (consM (nm 5) (consM (nm 8) (M.ret []))) (M.ret []))) (consM (fz (callM f_high_corners [0, 1] 2 0 (consM (nm 5) (consM (nm 8) (M.ret []))) (M.ret []))) (M.ret [])))))
    (ifM (PL.notM (truM (fz (callM f__law_same [0, 1] 2 0 (consM (nm 10) (consM (fz (lstM (consM (fz (callM f__law_lows [0, 1] 2 0 (consM (nm 5) (consM (nm 8) (M.ret []))) (M.ret []))) (consM (fz (callM f__law_highs [0, 1] 2 0 (consM (nm 5) (consM (nm 8) (M.ret []))) (M.ret []))) (M.ret []))))) (M.ret []))) (M.ret []))))) (retM (fr (M.ret (.bool false)))) (M.ret .nx)))))
    (seqM (loopM (rg1W (consM (M.ret (.int 3)) (M.ret []))) (fun d => setR 11 (false, d)) (ifM (PL.notM (truM (fz (callM f__law_is_within_right [0, 1, 2] 3 0 (consM (nm 1) (consM (ixNm 3 (binD andD (nm 11) (M.ret (.int 1)))) (consM (nm 2) (M.ret [])))) (M.ret []))))) (retM (fr (M.ret (.bool false)))) (M.ret .nx)))
    (seqM (loopM (enW2 (consM (fz (iteM (bolM (binD ltD (nm 2) (M.ret (.int 5)))) (fr (nm 3)) (slM (nm 3) none (some (M.ret (.int 1)))))) (M.ret []))) (tupG 2 (consG (fun d => setR 7 (false, d)) (consG (fun d => setR 9 (false, d)) nilG))) (ifM (PL.orM (PL.notM (truM (fz (callM f__law_is_had_right [0, 1, 2] 3 0 (consM (nm 9) (consM (nm 2) (consM (nm 7) (M.ret [])))) (M.ret []))))) (PL.andM (bolM (binD ltD (nm 2) (M.ret (.int 4)))) (PL.notM (truM (fz (callM f__law_is_had_right [0, 1, 2] 3 0 (consM (nm 9) (consM (nm 2) (consM (binD subD (M.ret (.int 1)) (nm 7)) (M.ret [])))) (M.ret []))))))) (retM (fr (M.ret (.bool false)))) (M.ret .nx)))
    (retM (fr (fz (unM allD (fz (lcM [8] (seqW (fz (lstM (consM (ixNm 6 (M.ret (.int 0))) (consM (ixNm 6 (binD subD (fz (unM lenD (pk 6))) (M.ret (.int 1)))) (M.ret [])))))) (fun d => setR 8 (false, d)) (M.ret true) (fz (callM f__law_is_face_right [0, 1, 2] 3 0 (consM (ixNm 3 (M.ret (.int 0))) (consM (nm 8) (consM (M.ret (.int 0)) (M.ret [])))) (M.ret [])))))))))))))))))
end Cw
/-! typed reckoning: what a mirror does, told by plain functions over plain types -/
namespace PL
open PySem PySem.Spec PyProof.Rows L2
inductive Sl where
  | no | val (d : D) | own (d : D)
def Sl.dat : Sl → Option D
  | .no => none
  | .val d => some d
  | .own d => some d
def SlR : Sl → Option (Bool × D) → Prop
  | .no, _ => True
  | .val d, o => ∃ k, o = some (k, d)
  | .own d, o => o = some (true, d)
def EnR : List Sl → SE → Prop
  | [], [] => True
  | s :: Γ, x :: en => SlR s x ∧ EnR Γ en
  | [], _ :: _ => False
  | _ :: _, [] => False
theorem EnR.len : ∀ {Γ : List Sl} {en : SE}, EnR Γ en → en.length = Γ.length
  | [], [], _ => rfl
  | _ :: Γ, _ :: en, h => congrArg (· + 1) (EnR.len (Γ := Γ) (en := en) h.2)
  | [], _ :: _, h => h.elim
  | _ :: _, [], h => h.elim
theorem EnR.get : ∀ {Γ : List Sl} {en : SE} {i : Nat} {s : Sl}, EnR Γ en → Γ[i]? = some s → ∃ x, en[i]? = some x ∧ SlR s x
  | s :: Γ, x :: en, 0, s', h, e => by cases e; exact ⟨x, rfl, h.1⟩
  | s :: Γ, x :: en, i + 1, s', h, e => EnR.get (Γ := Γ) (en := en) (i := i) h.2 e
  | [], [], _, _, _, e => by cases e
  | [], _ :: _, _, _, h, _ => h.elim
  | _ :: _, [], _, _, h, _ => h.elim
theorem EnR.set : ∀ {Γ : List Sl} {en : SE} (i : Nat) {s : Sl} {x : Option (Bool × D)}, EnR Γ en → SlR s x → EnR (Γ.set i s) (en.set i x)
  | s :: Γ, x :: en, 0, s', y, h, e => ⟨e, h.2⟩
  | s :: Γ, x :: en, i + 1, s', y, h, e => ⟨h.1, EnR.set (Γ := Γ) (en := en) i h.2 e⟩
  | [], [], _, _, _, h, _ => h
  | [], _ :: _, _, _, _, h, _ => h.elim
  | _ :: _, [], _, _, _, h, _ => h.elim
theorem EnR.keep : ∀ {Γ : List Sl} {en : SE} {i : Nat} {s : Sl} {x : Option (Bool × D)}, EnR Γ en → Γ[i]? = some s → SlR s x → EnR Γ (en.set i x)
  | s :: Γ, x :: en, 0, s', y, h, e, g => by cases e; exact ⟨g, h.2⟩
  | s :: Γ, x :: en, i + 1, s', y, h, e, g => ⟨h.1, EnR.keep (Γ := Γ) (en := en) (i := i) h.2 e g⟩
  | [], [], _, _, _, h, _, _ => h
  | [], _ :: _, _, _, _, h, _, _ => h.elim
  | _ :: _, [], _, _, _, h, _, _ => h.elim
theorem Sl.dat_get {Γ : List Sl} {en : SE} {i : Nat} {d : D} (h : EnR Γ en) (e : (Γ[i]?.bind Sl.dat) = some d) : ∃ k, en[i]? = some (some (k, d)) := by
  cases hs : Γ[i]? with
  | none => rw [hs] at e; cases e
  | some s =>
    rw [hs] at e
    obtain ⟨x, hx, r⟩ := h.get hs
    cases s with
    | no => cases e
    | val d' => cases e; obtain ⟨k, rfl⟩ := r; exact ⟨k, hx⟩
    | own d' => cases e; cases r; exact ⟨true, hx⟩
inductive Wk : List Sl → List Sl → Prop
  | nil : Wk [] []
  | s {x : Sl} {Γ Γ' : List Sl} : Wk Γ Γ' → Wk (x :: Γ) (x :: Γ')
  | n {x : Sl} {Γ Γ' : List Sl} : Wk Γ Γ' → Wk (x :: Γ) (.no :: Γ')
  | o {d : D} {Γ Γ' : List Sl} : Wk Γ Γ' → Wk (.own d :: Γ) (.val d :: Γ')
theorem Wk.go {Γ Γ' : List Sl} (w : Wk Γ Γ') : ∀ {en : SE}, EnR Γ en → EnR Γ' en := by
  induction w with
  | nil => exact fun h => h
  | s w ih =>
    intro en h
    match en, h with
    | y :: en, h => exact ⟨h.1, ih h.2⟩
  | n w ih =>
    intro en h
    match en, h with
    | y :: en, h => exact ⟨trivial, ih h.2⟩
  | o w ih =>
    intro en h
    match en, h with
    | y :: en, h => exact ⟨⟨true, h.1⟩, ih h.2⟩
/-! ### two readings: plain functions that may have no answer; all answers that draws allow -/
structure Mn where
  T : Type → Type
  ret : {α : Type} → α → T α
  bind : {α β : Type} → T α → (α → T β) → T β
  lift : {α : Type} → Option α → T α
  P : Bg → Prop
  R : Bg → Bg → Prop
  wp : {α : Type} → T α → (α → Prop) → Prop
  wp_ret : ∀ {α : Type} {x : α} {Q : α → Prop}, wp (ret x) Q → Q x
  wp_bind : ∀ {α β : Type} {p : T α} {k : α → T β} {Q : β → Prop}, wp (bind p k) Q → wp p (fun x => wp (k x) Q)
  wp_lift : ∀ {α : Type} {o : Option α} {Q : α → Prop}, wp (lift o) Q → ∃ x, o = some x ∧ Q x
  rr : ∀ {b : Bg}, P b → R b b
  rt : ∀ {a b c : Bg}, R a b → R b c → R a c
  rp : ∀ {a b : Bg}, P a → R a b → P b
abbrev oM : Mn where
  T := Option
  ret := some
  bind := Option.bind
  lift := fun o => o
  P := fun _ => True
  R := fun b b' => b' = b
  wp := fun p Q => ∃ x, p = some x ∧ Q x
  wp_ret := fun ⟨_, e, q⟩ => by cases e; exact q
  wp_bind := fun {α β p k Q} ⟨y, e, q⟩ => by
    cases p with
    | none => cases e
    | some x => exact ⟨x, rfl, y, e, q⟩
  wp_lift := fun h => h
  rr := fun _ => rfl
  rt := fun h1 h2 => h2.trans h1
  rp := fun _ _ => trivial
abbrev Wp (α : Type) : Type := (α → Prop) → Prop
abbrev wM : Mn where
  T := Wp
  ret := fun x Q => Q x
  bind := fun p k Q => p fun x => k x Q
  lift := fun o Q => o.elim False Q
  P := Gd
  R := fun _ b' => Gd b'
  wp := fun w Q => w Q
  wp_ret := fun h => h
  wp_bind := fun h => h
  wp_lift := fun {α o Q} h => by
    cases o with
    | none => exact h.elim
    | some x => exact ⟨x, rfl, h⟩
  rr := fun h => h
  rt := fun _ h => h
  rp := fun _ h => h
variable {𝕄 : Mn} {Γ Γ' : List Sl} {ρ ρ' ρ2 α β γ σ : Type}
def JE (𝕄 : Mn) (Γ : List Sl) (f : M ρ) (t : 𝕄.T α) (e : α → ρ → Prop) : Prop :=
  ∀ (en : SE) (b : Bg) (Q : α → Prop), EnR Γ en → 𝕄.P b → 𝕄.wp t Q → ∃ r x en' b', f en b = .ok r en' b' ∧ e x r ∧ EnR Γ en' ∧ 𝕄.R b b' ∧ Q x
def eE (enc : α → D) : α → D → Prop := fun x r => r = enc x
def eX (ko : Option Bool) (enc : α → D) : α → Bool × D → Prop := fun x r => r.2 = enc x ∧ ∀ q, ko = some q → r.1 = q
def eB : Bool → Bool → Prop := fun x r => r = x
def eW (enc : α → D) : List α → List D → Prop := fun l ds => ds = l.map enc
theorem je_bind {f : M ρ} {k : ρ → M ρ'} {t : 𝕄.T α} {u : α → 𝕄.T β} {e : α → ρ → Prop} {e' : β → ρ' → Prop} (h : JE 𝕄 Γ f t e) (hk : ∀ x r, e x r → JE 𝕄 Γ (k r) (u x) e') : JE 𝕄 Γ (f.bind k) (𝕄.bind t u) e' := fun en b Q g p w => by
  obtain ⟨r, x, en1, b1, h1, hx, g1, r1, w1⟩ := h en b _ g p (𝕄.wp_bind w)
  obtain ⟨r', y, en2, b2, h2, hy, g2, r2, w2⟩ := hk x r hx en1 b1 Q g1 (𝕄.rp p r1) w1
  exact ⟨r', y, en2, b2, (bind_ok h1).trans h2, hy, g2, 𝕄.rt r1 r2, w2⟩
theorem je_ret {x : α} {r : ρ} {e : α → ρ → Prop} (h : e x r) : JE 𝕄 Γ (M.ret r) (𝕄.ret x) e := fun en b Q g p w => ⟨r, x, en, b, rfl, h, g, 𝕄.rr p, 𝕄.wp_ret w⟩
theorem je_opt {o : Option α} {od : Option ρ} {e : α → ρ → Prop} (h : ∀ x, o = some x → ∃ r, od = some r ∧ e x r) : JE 𝕄 Γ (opt od) (𝕄.lift o) e := fun en b Q g p w => by
  obtain ⟨x, hx, q⟩ := 𝕄.wp_lift w
  obtain ⟨r, hr, he⟩ := h x hx
  exact ⟨r, x, en, b, by rw [hr]; rfl, he, g, 𝕄.rr p, q⟩
theorem je_map {f : M ρ} {t : 𝕄.T α} {e : α → ρ → Prop} {e' : β → ρ → Prop} (φ : α → β) (h : JE 𝕄 Γ f t e) (hφ : ∀ x r, e x r → e' (φ x) r) : JE 𝕄 Γ f (𝕄.bind t fun x => 𝕄.ret (φ x)) e' := fun en b Q g p w => by
  obtain ⟨r, x, en1, b1, h1, hx, g1, r1, w1⟩ := h en b _ g p (𝕄.wp_bind w)
  exact ⟨r, φ x, en1, b1, h1, hφ _ _ hx, g1, r1, 𝕄.wp_ret w1⟩
/-- what can be had in a step, with an option -/
theorem je_lift1 {f : M ρ} {e : α → ρ → Prop} {o : Option α} (h : ∀ x, o = some x → ∃ r, f = M.ret r ∧ e x r) : JE 𝕄 Γ f (𝕄.lift o) e := fun en b Q g p w => by
  obtain ⟨x, hx, q⟩ := 𝕄.wp_lift w
  obtain ⟨r, rfl, he⟩ := h x hx
  exact ⟨r, x, en, b, rfl, he, g, 𝕄.rr p, q⟩
theorem je_fz {f : M (Bool × D)} {t : 𝕄.T α} {ko : Option Bool} {enc : α → D} (h : JE 𝕄 Γ f t (eX ko enc)) : JE 𝕄 Γ (fz f) t (eE enc) := fun en b Q g p w => by
  obtain ⟨r, x, en1, b1, h1, hx, g1, r1, w1⟩ := h en b _ g p w
  exact ⟨r.2, x, en1, b1, fz_ok h1, hx.1, g1, r1, w1⟩
theorem je_fr {f : M D} {t : 𝕄.T α} {enc : α → D} (h : JE 𝕄 Γ f t (eE enc)) : JE 𝕄 Γ (fr f) t (eX (some false) enc) := fun en b Q g p w => by
  obtain ⟨r, x, en1, b1, h1, hx, g1, r1, w1⟩ := h en b _ g p w
  exact ⟨(false, r), x, en1, b1, fr_ok h1, ⟨hx, fun q e => by cases e; rfl⟩, g1, r1, w1⟩
theorem je_ko {f : M (Bool × D)} {t : 𝕄.T α} {ko : Option Bool} {enc : α → D} (h : JE 𝕄 Γ f t (eX ko enc)) : JE 𝕄 Γ f t (eX none enc) := fun en b Q g p w => by
  obtain ⟨r, x, en1, b1, h1, hx, g1, r1, w1⟩ := h en b _ g p w
  exact ⟨r, x, en1, b1, h1, ⟨hx.1, fun q e => by cases e⟩, g1, r1, w1⟩
theorem je_nm {i : Nat} {x : α} {enc : α → D} (h : Γ[i]? = some (.val (enc x))) : JE 𝕄 Γ (nm i) (𝕄.ret x) (eE enc) := fun en b Q g p w => by
  obtain ⟨y, hy, k, rfl⟩ := g.get h
  cases k with
  | true => exact ⟨_, x, _, b, nm_true hy, rfl, g.keep h ⟨false, rfl⟩, 𝕄.rr p, 𝕄.wp_ret w⟩
  | false => exact ⟨_, x, _, b, nm_false hy, rfl, g, 𝕄.rr p, 𝕄.wp_ret w⟩
theorem je_pk {i : Nat} {x : α} {enc : α → D} (h : (Γ[i]?.bind Sl.dat) = some (enc x)) : JE 𝕄 Γ (pk i) (𝕄.ret x) (eE enc) := fun en b Q g p w => by
  obtain ⟨k, hk⟩ := Sl.dat_get g h
  exact ⟨_, x, en, b, pk_some hk, rfl, g, 𝕄.rr p, 𝕄.wp_ret w⟩
theorem je_pkb {i : Nat} {d : D} {k : D → M ρ} {t : 𝕄.T α} {e : α → ρ → Prop} (h : (Γ[i]?.bind Sl.dat) = some d) (hk : JE 𝕄 Γ (k d) t e) : JE 𝕄 Γ ((pk i).bind k) t e := fun en b Q g p w => by
  obtain ⟨k', hk'⟩ := Sl.dat_get g h
  rw [bind_ok (pk_some hk')]
  exact hk en b Q g p w
/-- an operator of two: what it gives by types -/
def OpB (o : D → D → Option D) (ea : α → D) (eb : β → D) (ec : γ → D) (o' : α → β → Option γ) : Prop := ∀ x y z, o' x y = some z → o (ea x) (eb y) = some (ec z)
def OpX (o : D → D → Option (Bool × D)) (ea : α → D) (eb : β → D) (ko : Option Bool) (ec : γ → D) (o' : α → β → Option γ) : Prop := ∀ x y z, o' x y = some z → ∃ r, o (ea x) (eb y) = some r ∧ eX ko ec z r
def OpU (o : D → Option (Bool × D)) (ea : α → D) (ko : Option Bool) (ec : γ → D) (o' : α → Option γ) : Prop := ∀ x z, o' x = some z → ∃ r, o (ea x) = some r ∧ eX ko ec z r
theorem je_b2 {o : D → D → Option D} {ea : α → D} {eb : β → D} {ec : γ → D} {o' : α → β → Option γ} {f g : M D} {t1 : 𝕄.T α} {t2 : 𝕄.T β} (ho : OpB o ea eb ec o') (hf : JE 𝕄 Γ f t1 (eE ea)) (hg : JE 𝕄 Γ g t2 (eE eb)) :
    JE 𝕄 Γ (binD o f g) (𝕄.bind t1 fun x => 𝕄.bind t2 fun y => 𝕄.lift (o' x y)) (eE ec) :=
  je_bind hf fun x r hx => je_bind hg fun y r' hy => je_opt fun z hz => ⟨ec z, by cases hx; cases hy; exact ho x y z hz, rfl⟩
theorem jx_b2 {o : D → D → Option (Bool × D)} {ea : α → D} {eb : β → D} {ko : Option Bool} {ec : γ → D} {o' : α → β → Option γ} {f g : M D} {t1 : 𝕄.T α} {t2 : 𝕄.T β} (ho : OpX o ea eb ko ec o') (hf : JE 𝕄 Γ f t1 (eE ea)) (hg : JE 𝕄 Γ g t2 (eE eb)) :
    JE 𝕄 Γ (binM o f g) (𝕄.bind t1 fun x => 𝕄.bind t2 fun y => 𝕄.lift (o' x y)) (eX ko ec) :=
  je_bind hf fun x r hx => je_bind hg fun y r' hy => je_opt fun z hz => by cases hx; cases hy; exact ho x y z hz
theorem jx_un {o : D → Option (Bool × D)} {ea : α → D} {ko : Option Bool} {ec : γ → D} {o' : α → Option γ} {f : M D} {t : 𝕄.T α} (ho : OpU o ea ko ec o') (hf : JE 𝕄 Γ f t (eE ea)) :
    JE 𝕄 Γ (unM o f) (𝕄.bind t fun x => 𝕄.lift (o' x)) (eX ko ec) :=
  je_bind hf fun x r hx => je_opt fun z hz => by cases hx; exact ho x z hz
theorem je_ixn {i : Nat} {x : α} {ea : α → D} {eb : β → D} {ec : γ → D} {o' : α → β → Option γ} {g : M D} {t : 𝕄.T β} (ho : OpB ixD ea eb ec o') (h : (Γ[i]?.bind Sl.dat) = some (ea x)) (hg : JE 𝕄 Γ g t (eE eb)) :
    JE 𝕄 Γ (ixNm i g) (𝕄.bind t fun y => 𝕄.lift (o' x y)) (eE ec) :=
  je_pkb h (je_bind hg fun y r hy => je_pkb h (je_opt fun z hz => ⟨ec z, by cases hy; exact ho x y z hz, rfl⟩))
/-! lists of operands, one behind another -/
theorem jl_nil {k : List D → M ρ} {t : 𝕄.T α} {e : α → ρ → Prop} (h : JE 𝕄 Γ (k []) t e) : JE 𝕄 Γ ((M.ret []).bind k) t e := h
theorem M.bind_assoc {f : M ρ} {g : ρ → M ρ'} {h : ρ' → M ρ2} : (f.bind g).bind h = f.bind fun x => (g x).bind h := by
  funext en b
  unfold M.bind
  cases f en b <;> rfl
theorem jl_cons {f : M D} {F : M (List D)} {k : List D → M ρ} {t1 : 𝕄.T α} {ea : α → D} {u : α → 𝕄.T β} {e : β → ρ → Prop} (h : JE 𝕄 Γ f t1 (eE ea)) (hu : ∀ x, JE 𝕄 Γ (F.bind fun xs => k (ea x :: xs)) (u x) e) : JE 𝕄 Γ ((consM f F).bind k) (𝕄.bind t1 u) e := by
  unfold consM
  rw [M.bind_assoc]
  refine je_bind h fun x r hx => ?_
  cases hx
  rw [M.bind_assoc]
  exact hu x
theorem je_tup {g : M (List D)} {t : 𝕄.T α} {e : α → D → Prop} (h : JE 𝕄 Γ (g.bind fun xs => if xs.length ≤ sizeLine then M.ret (.tuple xs) else stk) t e) : JE 𝕄 Γ (tupM g) t e := h
theorem je_lst {g : M (List D)} {t : 𝕄.T α} {e : α → Bool × D → Prop} (h : JE 𝕄 Γ (g.bind fun xs => if xs.length ≤ sizeLine then M.ret (true, .list xs) else stk) t e) : JE 𝕄 Γ (lstM g) t e := h
theorem je_tupE {xs : List D} {x : α} {enc : α → D} (hz : xs.length ≤ 4000) (h : enc x = .tuple xs) : JE 𝕄 Γ (if xs.length ≤ sizeLine then M.ret (PyData.tuple xs) else stk) (𝕄.ret x) (eE enc) := by
  rw [if_sz hz]
  exact je_ret h.symm
theorem je_lstE {xs : List D} {x : α} {enc : α → D} (hz : xs.length ≤ 4000) (h : enc x = .list xs) : JE 𝕄 Γ (if xs.length ≤ sizeLine then M.ret (true, PyData.list xs) else stk) (𝕄.ret x) (eX (some true) enc) := by
  rw [if_sz hz]
  exact je_ret ⟨h.symm, fun q e => by cases e; rfl⟩
theorem je_arg {o : List D → Option (Bool × D)} {g : M (List D)} {t : 𝕄.T α} {e : α → Bool × D → Prop} (h : JE 𝕄 Γ (g.bind fun xs => opt (o xs)) t e) : JE 𝕄 Γ (argM o g) t e := h
theorem je_optX {o : Option α} {od : Option (Bool × D)} {ko : Option Bool} {enc : α → D} (h : ∀ x, o = some x → ∃ r, od = some r ∧ eX ko enc x r) : JE 𝕄 Γ (opt od) (𝕄.lift o) (eX ko enc) := je_opt h
/-! tests -/
theorem je_bol {f : M D} {t : 𝕄.T Bool} (h : JE 𝕄 Γ f t (eE PyData.bool)) : JE 𝕄 Γ (bolM f) t eB := fun en b Q g p w => by
  obtain ⟨r, x, en1, b1, h1, hx, g1, r1, w1⟩ := h en b _ g p w
  cases hx
  exact ⟨x, x, en1, b1, bol_ok h1, rfl, g1, r1, w1⟩
theorem je_tru {f : M D} {t : 𝕄.T α} {enc : α → D} {tr : α → Bool} (ht : ∀ x, truD (enc x) = some (tr x)) (h : JE 𝕄 Γ f t (eE enc)) : JE 𝕄 Γ (truM f) (𝕄.bind t fun x => 𝕄.ret (tr x)) eB := fun en b Q g p w => by
  obtain ⟨r, x, en1, b1, h1, hx, g1, r1, w1⟩ := h en b _ g p (𝕄.wp_bind w)
  cases hx
  exact ⟨tr x, tr x, en1, b1, tru_ok h1 (ht x), rfl, g1, r1, 𝕄.wp_ret w1⟩
theorem je_not {f : M Bool} {t : 𝕄.T Bool} (h : JE 𝕄 Γ f t eB) : JE 𝕄 Γ (PL.notM f) (𝕄.bind t fun k => 𝕄.ret (!k)) eB := fun en b Q g p w => by
  obtain ⟨r, x, en1, b1, h1, hx, g1, r1, w1⟩ := h en b _ g p (𝕄.wp_bind w)
  cases hx
  exact ⟨!r, !r, en1, b1, not_ok h1, rfl, g1, r1, 𝕄.wp_ret w1⟩
theorem je_true : JE 𝕄 Γ (M.ret true) (𝕄.ret true) eB := je_ret rfl
theorem je_ite {c : M Bool} {f g : M ρ} {tc : 𝕄.T Bool} {t1 t2 : 𝕄.T α} {e : α → ρ → Prop} (hc : JE 𝕄 Γ c tc eB) (hf : JE 𝕄 Γ f t1 e) (hg : JE 𝕄 Γ g t2 e) : JE 𝕄 Γ (iteM c f g) (𝕄.bind tc fun k => if k then t1 else t2) e :=
  je_bind hc fun x r hx => by cases hx; cases x with
    | true => exact hf
    | false => exact hg
theorem je_and {f g : M Bool} {t1 t2 : 𝕄.T Bool} (hf : JE 𝕄 Γ f t1 eB) (hg : JE 𝕄 Γ g t2 eB) : JE 𝕄 Γ (PL.andM f g) (𝕄.bind t1 fun k => if k then t2 else 𝕄.ret false) eB :=
  je_bind hf fun x r hx => by cases hx; cases x with
    | true => exact hg
    | false => exact je_ret rfl
theorem je_or {f g : M Bool} {t1 t2 : 𝕄.T Bool} (hf : JE 𝕄 Γ f t1 eB) (hg : JE 𝕄 Γ g t2 eB) : JE 𝕄 Γ (PL.orM f g) (𝕄.bind t1 fun k => if k then 𝕄.ret true else t2) eB :=
  je_bind hf fun x r hx => by cases hx; cases x with
    | true => exact je_ret rfl
    | false => exact hg
theorem je_andV {f g : M D} {t1 t2 : 𝕄.T Bool} (hf : JE 𝕄 Γ f t1 (eE PyData.bool)) (hg : JE 𝕄 Γ g t2 (eE PyData.bool)) : JE 𝕄 Γ (andV f g) (𝕄.bind t1 fun k => if k then t2 else 𝕄.ret false) (eE PyData.bool) :=
  je_bind hf fun x r hx => by cases hx; cases x with
    | true => exact hg
    | false => exact je_ret rfl
theorem je_orV {f g : M D} {t1 t2 : 𝕄.T Bool} (hf : JE 𝕄 Γ f t1 (eE PyData.bool)) (hg : JE 𝕄 Γ g t2 (eE PyData.bool)) : JE 𝕄 Γ (orV f g) (𝕄.bind t1 fun k => if k then 𝕄.ret true else t2) (eE PyData.bool) :=
  je_bind hf fun x r hx => by cases hx; cases x with
    | true => exact je_ret rfl
    | false => exact hg
theorem je_notV {f : M D} {t : 𝕄.T Bool} (hf : JE 𝕄 Γ f t (eE PyData.bool)) : JE 𝕄 Γ (notV f) (𝕄.bind t fun k => 𝕄.ret (!k)) (eE PyData.bool) :=
  je_bind hf fun x r hx => by cases hx; exact je_ret rfl
/-! ### calls -/
def JC (𝕄 : Mn) (m : Fn) (ds : List D) (t : 𝕄.T α) (ko : Option Bool) (enc : α → D) : Prop :=
  ∀ (b : Bg) (Q : α → Prop), 𝕄.P b → 𝕄.wp t Q → ∃ r x b', m ds b = .ok r b' ∧ eX ko enc x r ∧ 𝕄.R b b' ∧ Q x
theorem JC.up {m : Fn} {ds : List D} {t : Option α} {ko : Option Bool} {enc : α → D} (h : JC oM m ds t ko enc) : JC 𝕄 m ds (𝕄.lift t) ko enc := fun b Q p w => by
  obtain ⟨x, hx, q⟩ := 𝕄.wp_lift w
  obtain ⟨r, x', b', h1, h2, h3, h4⟩ := h b (fun z => z = x) trivial ⟨x, hx, rfl⟩
  have h3' : b' = b := h3
  cases h3'
  cases h4
  exact ⟨r, _, b, h1, h2, 𝕄.rr p, q⟩
def callK (m : Fn) (pm : List Nat) (n kn : Nat) (xs zs : List D) : M (Bool × D) := fun en b => if xs.length = n ∧ zs.length = kn then
    match m (permL pm (xs ++ zs)) b with
    | .stuck => .stuck
    | .ok r b' => .ok r en b'
    | .exc x b' => .exc x en b'
  else .stuck
theorem jx_call {m : Fn} {pm : List Nat} {n kn : Nat} {f g : M (List D)} {t : 𝕄.T α} {e : α → Bool × D → Prop} (h : JE 𝕄 Γ (f.bind fun xs => g.bind fun zs => callK m pm n kn xs zs) t e) : JE 𝕄 Γ (callM m pm n kn f g) t e := h
theorem jx_end {m : Fn} {pm : List Nat} {n kn : Nat} {xs zs ds : List D} {t : 𝕄.T α} {ko : Option Bool} {enc : α → D} (h : JC 𝕄 m ds t ko enc) (hn : xs.length = n ∧ zs.length = kn) (hp : permL pm (xs ++ zs) = ds) : JE 𝕄 Γ (callK m pm n kn xs zs) t (eX ko enc) := fun en b Q g p w => by
  obtain ⟨r, x, b', h1, h2, h3, h4⟩ := h b Q p w
  refine ⟨r, x, en, b', ?_, h2, g, h3, h4⟩
  unfold callK
  rw [if_pos hn, hp, h1]
/-! ### walks -/
theorem je_seqW {f : M D} {t : 𝕄.T (List α)} {enc : List α → D} {el : α → D} (hs : ∀ l, seqD (enc l) = some (l.map el)) (h : JE 𝕄 Γ f t (eE enc)) : JE 𝕄 Γ (seqW f) t (eW el) := fun en b Q g p w => by
  obtain ⟨r, x, en1, b1, h1, hx, g1, r1, w1⟩ := h en b _ g p w
  cases hx
  exact ⟨_, x, en1, b1, seqW_ok h1 (hs x), rfl, g1, r1, w1⟩
def rgO (n : Nat) : Option (List Nat) := if n ≤ 2 ^ 20 then some (List.range n) else none
theorem je_rg1 {f : M D} {t : 𝕄.T Nat} (h : JE 𝕄 Γ f t (eE nI)) : JE 𝕄 Γ (rg1W (consM f (M.ret []))) (𝕄.bind t fun n => 𝕄.lift (rgO n)) (eW nI) := fun en b Q g p w => by
  obtain ⟨r, x, en1, b1, h1, hx, g1, r1, w1⟩ := h en b _ g p (𝕄.wp_bind w)
  obtain ⟨l, hl, q⟩ := 𝕄.wp_lift w1
  cases hx
  unfold rgO at hl
  by_cases hn : x ≤ 2 ^ 20
  · rw [if_pos hn] at hl
    cases hl
    refine ⟨_, List.range x, en1, b1, ?_, rfl, g1, r1, q⟩
    unfold rg1W
    refine (bind_ok (cons_ok (ds := []) (e2 := en1) (b2 := b1) h1 rfl)).trans ?_
    show (if small62 (x : Int) then M.ret (rgL 0 (x : Int).toNat) else stk) en1 b1 = _
    rw [if_pos (by unfold small62; simp only [Bool.and_eq_true, decide_eq_true_eq]; omega), Int.toNat_natCast, rgL_n]
    rfl
  · rw [if_neg hn] at hl
    cases hl
theorem small_n {n : Nat} (h : n ≤ 2 ^ 20) : small62 (n : Int) = true := by
  unfold small62
  simp only [Bool.and_eq_true, decide_eq_true_eq]
  omega
theorem rg2_ok {f : M (List D)} {en e1 : SE} {b b1 : Bg} {i j : Int} (h : f en b = .ok [.int i, .int j] e1 b1) (hs : (small62 i && small62 j) = true) : rg2W f en b = .ok (rgL i (j - i).toNat) e1 b1 := by
  unfold rg2W
  refine (bind_ok h).trans ?_
  show (if small62 i && small62 j then M.ret (rgL i (j - i).toNat) else stk) e1 b1 = _
  rw [if_pos hs]
  rfl
theorem putL_at {i : Nat} {o : List D → List D → Option (List D × D)} {args ds zs : List D} {r : D} {en : SE} {b : Bg} (h : en[i]? = some (some (true, .list ds))) (h2 : o ds args = some (zs, r)) : putL i o args en b = .ok r (en.set i (some (true, .list zs))) b := by
  unfold putL
  rw [h]
  dsimp only
  rw [h2]
theorem oPopAt_i (ds : List D) (i : Int) : oPopAt ds [.int i] = if decide (-(2 ^ 63) ≤ i) && decide (i < 2 ^ 63) then (seqIndex? i ds.length).bind fun k => (ds[k]?).map fun x => (ds.eraseIdx k, x) else none := rfl
theorem mulX_L (xs : List D) (k : Int) : mulX (.list xs) (.int k) = if decide (-(2 ^ 63) ≤ k) && decide (k < 2 ^ 63) && decide (xs.length * k.toNat ≤ sizeLine) then some (true, .list (List.replicate k.toNat xs).flatten) else none := rfl
theorem oPop_n (ds : List D) : oPop ds [] = (ds[ds.length - 1]?).map fun x => (ds.dropLast, x) := rfl
theorem oAppend_1 (ds : List D) (x : D) : oAppend ds [x] = if ds.length < sizeLine then some (ds ++ [x], .none) else none := rfl
theorem oExtend_1 (ds xs : List D) : oExtend ds [.list xs] = if ds.length + xs.length ≤ sizeLine then some (ds ++ xs, .none) else none := rfl
def rg2O (m n : Nat) : Option (List Nat) := if m ≤ 2 ^ 20 ∧ n ≤ 2 ^ 20 then some ((List.range (n - m)).map (m + ·)) else none
theorem je_rg2 {f f2 : M D} {t t2 : 𝕄.T Nat} (h : JE 𝕄 Γ f t (eE nI)) (h2 : JE 𝕄 Γ f2 t2 (eE nI)) : JE 𝕄 Γ (rg2W (consM f (consM f2 (M.ret [])))) (𝕄.bind t fun m => 𝕄.bind t2 fun n => 𝕄.lift (rg2O m n)) (eW nI) := by
  intro en b Q g p w
  obtain ⟨r, m, en1, b1, k1, hx, g1, r1, w1⟩ := h en b _ g p (𝕄.wp_bind w)
  cases hx
  obtain ⟨r, n, en2, b2, k2, hx, g2, r2, w2⟩ := h2 en1 b1 _ g1 (𝕄.rp p r1) (𝕄.wp_bind w1)
  cases hx
  obtain ⟨l, hl, q⟩ := 𝕄.wp_lift w2
  unfold rg2O at hl
  by_cases hn : m ≤ 2 ^ 20 ∧ n ≤ 2 ^ 20
  · rw [if_pos hn] at hl
    cases hl
    refine ⟨rgL (m : Int) ((n : Int) - (m : Int)).toNat, _, en2, b2, rg2_ok (cons_ok k1 (cons_ok k2 rfl)) (by rw [small_n hn.1, small_n hn.2]; rfl), ?_, g2, 𝕄.rt r1 r2, q⟩
    show rgL (m : Int) ((n : Int) - (m : Int)).toNat = ((List.range (n - m)).map (m + ·)).map nI
    unfold rgL nI
    rw [List.map_map, show ((n : Int) - (m : Int)).toNat = n - m by omega]
    apply List.map_congr_left
    intro i _
    show PyData.int _ = PyData.int _
    simp
  · rw [if_neg hn] at hl
    cases hl
def enumN (l : List α) : List (Nat × α) := l.zipIdx.map fun p => (p.2, p.1)
def eL (enc : α → D) (l : List α) : D := .list (l.map enc)
def eT (enc : α → D) (l : List α) : D := .tuple (l.map enc)
def eP (ea : α → D) (eb : β → D) (p : α × β) : D := .tuple [ea p.1, eb p.2]
def eQ (ea : α → D) (eb : β → D) (p : α × β) : D := .list [ea p.1, eb p.2]
def eP3 (ea : α → D) (eb : β → D) (ec : γ → D) (p : α × β × γ) : D := .tuple [ea p.1, eb p.2.1, ec p.2.2]
def eQ3 (ea : α → D) (eb : β → D) (ec : γ → D) (p : α × β × γ) : D := .list [ea p.1, eb p.2.1, ec p.2.2]
def eQ1 (ea : α → D) (p : α) : D := .list [ea p]
def eP1 (ea : α → D) (p : α) : D := .tuple [ea p]
def eO (ea : α → D) : Option α → D
  | none => .none
  | some x => ea x
def eN (_ : Unit) : D := .none
theorem je_enum {f : M D} {t : 𝕄.T (List α)} {enc : α → D} (h : JE 𝕄 Γ f t (eE (eL enc))) : JE 𝕄 Γ (enW (consM f (M.ret []))) (𝕄.bind t fun l => 𝕄.ret (enumN l)) (eW (eP nI enc)) := by
  unfold enW
  refine jl_cons h fun l => ?_
  refine je_ret ?_
  show enumL (l.map enc) = (enumN l).map (eP nI enc)
  unfold enumL enumN
  rw [List.zipIdx_map, List.map_map, List.map_map]
  apply List.map_congr_left
  rintro ⟨x, i⟩ _
  rfl
theorem eL_seq (enc : α → D) : ∀ l, seqD (eL enc l) = some (l.map enc) := fun _ => rfl
theorem eT_seq (enc : α → D) : ∀ l, seqD (eT enc l) = some (l.map enc) := fun _ => rfl
theorem je_zip {f g : M D} {t1 : 𝕄.T (List α)} {t2 : 𝕄.T (List β)} {enc1 : List α → D} {enc2 : List β → D} {ea : α → D} {eb : β → D} (s1 : ∀ l, seqD (enc1 l) = some (l.map ea)) (s2 : ∀ l, seqD (enc2 l) = some (l.map eb)) (hf : JE 𝕄 Γ f t1 (eE enc1)) (hg : JE 𝕄 Γ g t2 (eE enc2)) :
    JE 𝕄 Γ (lzM (consM f (consM g (M.ret [])))) (𝕄.bind t1 fun x => 𝕄.bind t2 fun y => 𝕄.ret (List.zip x y)) (eX (some true) (eL (eP ea eb))) := by
  unfold lzM
  refine jl_cons hf fun x => jl_cons hg fun y => ?_
  show JE 𝕄 Γ (opt (zipOf (enc1 x) (enc2 y))) _ _
  unfold zipOf
  rw [s1, s2]
  refine je_ret ⟨?_, fun q e => by cases e; rfl⟩
  show PyData.list _ = PyData.list _
  congr 1
  rw [List.zipWith_map, List.zip, List.map_zipWith]
  rfl
theorem jx_lrg {f : M D} {t : 𝕄.T Nat} (h : JE 𝕄 Γ f t (eE nI)) : JE 𝕄 Γ (lrgM f) (𝕄.bind t fun n => 𝕄.lift (rgO n)) (eX (some true) (eL nI)) := by
  unfold lrgM
  refine je_bind h fun n r hr => ?_
  cases hr
  refine je_lift1 fun l hl => ?_
  unfold rgO at hl
  by_cases hn : n ≤ 2 ^ 20
  · rw [if_pos hn] at hl
    cases hl
    refine ⟨(true, .list (rgD 0 (n : Int))), ?_, by rw [rgD_n]; rfl, fun q e => by cases e; rfl⟩
    show (if rgOk 0 (n : Int) then M.ret (true, PyData.list (rgD 0 (n : Int))) else stk) = _
    rw [if_pos (by unfold rgOk; simp only [Bool.and_eq_true, decide_eq_true_eq]; omega)]
  · rw [if_neg hn] at hl
    cases hl
/-! ### targets -/
def TGx (Γ : List Sl) (g : D → M Unit) (d : D) (Γb : List Sl) : Prop := ∀ en b, EnR Γ en → ∃ en', g d en b = .ok () en' b ∧ EnR Γb en'
def TGs (Γ : List Sl) (k : List D → M Unit) (ds : List D) (Γb : List Sl) : Prop := ∀ en b, EnR Γ en → ∃ en', k ds en b = .ok () en' b ∧ EnR Γb en'
theorem ltb {a b : Nat} (h : Nat.ble (a + 1) b = true) : a < b := Nat.le_of_ble_eq_true h
theorem leb {a b : Nat} (h : Nat.ble a b = true) : a ≤ b := Nat.le_of_ble_eq_true h
theorem tg_name {i : Nat} {d : D} (hi : i < Γ.length) : TGx Γ (fun d => setR i (false, d)) d (Γ.set i (.val d)) := fun en b g => ⟨en.set i (some (false, d)), by
  show setR i (false, d) en b = _
  exact if_pos (by rw [g.len]; exact hi), g.set i ⟨false, rfl⟩⟩
theorem tgs_nil : TGs Γ nilG [] Γ := fun en b g => ⟨en, rfl, g⟩
theorem tgs_cons {g : D → M Unit} {k : List D → M Unit} {d : D} {ds : List D} {Γ1 Γ2 : List Sl} (h1 : TGx Γ g d Γ1) (h2 : TGs Γ1 k ds Γ2) : TGs Γ (consG g k) (d :: ds) Γ2 := fun en b h => by
  obtain ⟨en1, k1, g1⟩ := h1 en b h
  obtain ⟨en2, k2, g2⟩ := h2 en1 b g1
  refine ⟨en2, ?_, g2⟩
  show M.bind (g d) (fun _ => k ds) en b = _
  rw [bind_ok k1]
  exact k2
theorem tg_tup {n : Nat} {k : List D → M Unit} {d : D} {ds : List D} {Γb : List Sl} (he : d = .tuple ds ∨ d = .list ds) (hn : ds.length = n) (h : TGs Γ k ds Γb) : TGx Γ (tupG n k) d Γb := fun en b g => by
  obtain ⟨en', h1, h2⟩ := h en b g
  refine ⟨en', ?_, h2⟩
  rcases he with e | e
  · rw [e]
    show (if ds.length = n then k ds else stk) en b = _
    rw [if_pos hn]
    exact h1
  · rw [e]
    show (if ds.length = n then k ds else stk) en b = _
    rw [if_pos hn]
    exact h1
/-! ### comprehensions -/
def szO (l : List α) : Option (List α) := if l.length ≤ 2 ^ 20 then some l else none
def compT (𝕄 : Mn) (tc : α → 𝕄.T Bool) (te : α → 𝕄.T β) : List α → 𝕄.T (List β)
  | [] => 𝕄.ret []
  | x :: l => 𝕄.bind (tc x) fun k => if k then 𝕄.bind (te x) fun y => 𝕄.bind (compT 𝕄 tc te l) fun ys => 𝕄.ret (y :: ys) else compT 𝕄 tc te l
def NoAt (Γ : List Sl) (vs : List Nat) : Prop := ∀ v ∈ vs, Γ[v]? = some .no
theorem noat_nil : NoAt Γ [] := fun v h => by cases h
theorem noat_cons {v : Nat} {vs : List Nat} (h : Γ[v]? = some .no) (t : NoAt Γ vs) : NoAt Γ (v :: vs) := fun x hx => by
  rcases List.mem_cons.mp hx with rfl | hx
  · exact h
  · exact t x hx
theorem EnR.wipe {Γ : List Sl} {en : SE} (h : EnR Γ en) : ∀ {vs : List Nat}, NoAt Γ vs → EnR Γ (wipeE en vs)
  | [], _ => h
  | v :: vs, n => EnR.keep (EnR.wipe h (vs := vs) fun x hx => n x (List.mem_cons_of_mem _ hx)) (n v (List.mem_cons_self ..)) trivial
theorem EnR.mrg {Γ : List Sl} {en0 en : SE} (h : EnR Γ en) : ∀ {vs : List Nat}, NoAt Γ vs → EnR Γ (mrgE en0 en vs)
  | [], _ => h
  | v :: vs, n => EnR.keep (EnR.mrg h (vs := vs) fun x hx => n x (List.mem_cons_of_mem _ hx)) (n v (List.mem_cons_self ..)) trivial
/-- back from the block's own slots -/
theorem EnR.back {Γ : List Sl} {Γb : List Sl} (h : Wk Γb Γ) {en : SE} (g : EnR Γb en) : EnR Γ en := h.go g
theorem jx_lc {vs : List Nat} {it : M (List D)} {gt : D → M Unit} {c : M Bool} {el : M D} {t : 𝕄.T (List α)} {enc : α → D} {e2 : β → D} {tc : α → 𝕄.T Bool} {te : α → 𝕄.T β} {Γb : α → List Sl}
    (hv : NoAt Γ vs) (hi : JE 𝕄 Γ it t (eW enc)) (hg : ∀ x, TGx Γ gt (enc x) (Γb x)) (hw : ∀ x, Wk (Γb x) Γ) (hc : ∀ x, JE 𝕄 (Γb x) c (tc x) eB) (he : ∀ x, JE 𝕄 (Γb x) el (te x) (eE e2)) :
    JE 𝕄 Γ (lcM vs it gt c el) (𝕄.bind t fun l => 𝕄.bind (𝕄.lift (szO l)) fun l => compT 𝕄 tc te l) (eX (some true) (eL e2)) := fun en b Q g p w => by
  obtain ⟨ds, l, en1, b1, h1, hl, g1, r1, w1⟩ := hi en b _ g p (𝕄.wp_bind w)
  obtain ⟨l', hl', w2⟩ := 𝕄.wp_lift (𝕄.wp_bind w1)
  cases hl
  unfold szO at hl'
  by_cases hz : l.length ≤ 2 ^ 20
  · rw [if_pos hz] at hl'
    cases hl'
    have key : ∀ (l : List α) (acc : List D) (en : SE) (b : Bg) (Q : List β → Prop), acc.length + l.length ≤ 2 ^ 20 → EnR Γ en → 𝕄.P b → 𝕄.wp (compT 𝕄 tc te l) Q →
        ∃ ys en' b', lcGo vs gt c el (l.map enc) acc en b = .ok (acc ++ ys.map e2) en' b' ∧ EnR Γ en' ∧ 𝕄.R b b' ∧ Q ys := by
      intro l
      induction l with
      | nil => intro acc en b Q _ g p w; exact ⟨[], en, b, by simp [lcGo, M.ret], g, 𝕄.rr p, 𝕄.wp_ret w⟩
      | cons x l ih =>
        intro acc en b Q hz g p w
        rw [List.length_cons] at hz
        obtain ⟨ea, k1, g2⟩ := hg x (wipeE en vs) b (g.wipe hv)
        obtain ⟨k, k', eb, bb, k2, kk, g3, r3, w3⟩ := hc x ea b _ g2 p (𝕄.wp_bind w)
        cases kk
        have turn : ∀ acc' e' bb', lcT gt c el acc (enc x) (wipeE en vs) b = .ok acc' e' bb' → lcGo vs gt c el (enc x :: l.map enc) acc en b = lcGo vs gt c el (l.map enc) acc' (wipeE e' vs) bb' := fun acc' e' bb' z => by
          show (M.bind (lcT gt c el acc (enc x)) (fun acc' en' b' => lcGo vs gt c el (l.map enc) acc' (wipeE en' vs) b')) (wipeE en vs) b = _
          unfold M.bind
          rw [z]
        cases k with
        | false =>
          obtain ⟨ys, e4, b4, k4, g4, r4, q4⟩ := ih acc (wipeE eb vs) bb Q (by omega) (((hw x).go g3).wipe hv) (𝕄.rp p r3) w3
          refine ⟨ys, e4, b4, ?_, g4, 𝕄.rt r3 r4, q4⟩
          rw [List.map_cons, turn acc eb bb (by unfold lcT M.bind; rw [k1]; dsimp only; rw [k2]; rfl)]
          exact k4
        | true =>
          obtain ⟨d, y, ec, bc, k5, hy, g5, r5, w5⟩ := he x eb bb _ g3 (𝕄.rp p r3) (𝕄.wp_bind w3)
          cases hy
          have p5 := 𝕄.rp (𝕄.rp p r3) r5
          obtain ⟨ys, e4, b4, k4, g4, r4, q4⟩ := ih (acc ++ [e2 y]) (wipeE ec vs) bc _ (by rw [List.length_append]; simp only [List.length_cons, List.length_nil]; omega) (((hw x).go g5).wipe hv) p5 (𝕄.wp_bind w5)
          refine ⟨y :: ys, e4, b4, ?_, g4, 𝕄.rt r3 (𝕄.rt r5 r4), 𝕄.wp_ret q4⟩
          rw [List.map_cons, turn (acc ++ [e2 y]) ec bc (by
            unfold lcT M.bind; rw [k1]; dsimp only; rw [k2]; dsimp only
            rw [k5]; dsimp only
            rw [if_pos (by unfold sizeLine; omega)]; rfl)]
          rw [k4]
          simp
    obtain ⟨ys, e2', b2, k2, g2, r2, q2⟩ := key l [] (wipeE en1 vs) b1 Q (by simpa using hz) (g1.wipe hv) (𝕄.rp p r1) w2
    refine ⟨(true, .list (ys.map e2)), ys, _, b2, ?_, ⟨rfl, fun q e => by cases e; rfl⟩, g2.mrg hv (en0 := en1), 𝕄.rt r1 r2, q2⟩
    unfold lcM M.bind
    rw [h1]
    dsimp only
    rw [k2]
    rfl
  · rw [if_neg hz] at hl'
    cases hl'
/-! ### statements -/
def JS (𝕄 : Mn) (Γ : List Sl) (f : M Fl) (t : 𝕄.T α) (po : α → Fl → SE → Prop) : Prop :=
  ∀ (en : SE) (b : Bg) (Q : α → Prop), EnR Γ en → 𝕄.P b → 𝕄.wp t Q → ∃ fl x en' b', f en b = .ok fl en' b' ∧ po x fl en' ∧ 𝕄.R b b' ∧ Q x
/-- it falls through -/
def NxP (Γf : α → List Sl) : α → Fl → SE → Prop := fun s fl en => fl = .nx ∧ EnR (Γf s) en
def CtP (Γf : α → List Sl) : α → Fl → SE → Prop := fun s fl en => fl = .ct ∧ EnR (Γf s) en
/-- a loop's body -/
def BdP (Γf : α → List Sl) : α → Fl → SE → Prop := fun s fl en => (fl = .nx ∨ fl = .ct) ∧ EnR (Γf s) en
def RtP (ko : Option Bool) (enc : α → D) : α → Fl → SE → Prop := fun x fl en => ∃ r, fl = .rt r ∧ eX ko enc x r
/-- it returns, or falls through -/
def MxP (ko : Option Bool) (enc : α → D) (Γf : β → List Sl) : α ⊕ β → Fl → SE → Prop
  | .inl x => RtP ko enc x
  | .inr s => NxP Γf s
def MbP (ko : Option Bool) (enc : α → D) (Γf : β → List Sl) : α ⊕ β → Fl → SE → Prop
  | .inl x => RtP ko enc x
  | .inr s => BdP Γf s
/-- it breaks off (inl), or goes on -/
def BkP (Γf : β → List Sl) : β ⊕ β → Fl → SE → Prop
  | .inl s => fun fl en => fl = .brk ∧ EnR (Γf s) en
  | .inr s => BdP Γf s
theorem js_post {f : M Fl} {t : 𝕄.T α} {po po' : α → Fl → SE → Prop} (h : JS 𝕄 Γ f t po) (hp : ∀ x fl en, po x fl en → po' x fl en) : JS 𝕄 Γ f t po' := fun en b Q g p w => by
  obtain ⟨fl, x, en', b', h1, h2, h3, h4⟩ := h en b Q g p w
  exact ⟨fl, x, en', b', h1, hp _ _ _ h2, h3, h4⟩
theorem js_wk {f : M Fl} {t : 𝕄.T α} {po : α → Fl → SE → Prop} (w : Wk Γ Γ') (h : JS 𝕄 Γ' f t po) : JS 𝕄 Γ f t po := fun en b Q g p q => h en b Q (w.go g) p q
theorem js_seq {f g : M Fl} {t : 𝕄.T α} {u : α → 𝕄.T β} {Γf : α → List Sl} {po : β → Fl → SE → Prop} (h : JS 𝕄 Γ f t (NxP Γf)) (hg : ∀ s, JS 𝕄 (Γf s) g (u s) po) : JS 𝕄 Γ (seqM f g) (𝕄.bind t u) po := fun en b Q g0 p w => by
  obtain ⟨fl, x, en1, b1, h1, ⟨rfl, g1⟩, r1, w1⟩ := h en b _ g0 p (𝕄.wp_bind w)
  obtain ⟨fl2, y, en2, b2, h2, p2, r2, w2⟩ := hg x en1 b1 Q g1 (𝕄.rp p r1) w1
  exact ⟨fl2, y, en2, b2, (seq_ok h1).trans h2, p2, 𝕄.rt r1 r2, w2⟩
/-- the first may return -/
theorem js_seqR {f g : M Fl} {t : 𝕄.T (α ⊕ β)} {u : β → 𝕄.T α} {ko : Option Bool} {enc : α → D} {Γf : β → List Sl} (h : JS 𝕄 Γ f t (MxP ko enc Γf)) (hg : ∀ s, JS 𝕄 (Γf s) g (u s) (RtP ko enc)) :
    JS 𝕄 Γ (seqM f g) (𝕄.bind t fun z => Sum.elim (fun x => 𝕄.ret x) u z) (RtP ko enc) := fun en b Q g0 p w => by
  obtain ⟨fl, z, en1, b1, h1, hz, r1, w1⟩ := h en b _ g0 p (𝕄.wp_bind w)
  cases z with
  | inl x =>
    obtain ⟨r, rfl, hr⟩ := hz
    exact ⟨_, x, en1, b1, seq_rt h1, ⟨r, rfl, hr⟩, r1, 𝕄.wp_ret w1⟩
  | inr s =>
    obtain ⟨rfl, g1⟩ := hz
    obtain ⟨fl2, y, en2, b2, h2, p2, r2, w2⟩ := hg s en1 b1 Q g1 (𝕄.rp p r1) w1
    exact ⟨fl2, y, en2, b2, (seq_ok h1).trans h2, p2, 𝕄.rt r1 r2, w2⟩
theorem js_seqRM {f g : M Fl} {t : 𝕄.T (α ⊕ β)} {u : β → 𝕄.T (α ⊕ γ)} {ko : Option Bool} {enc : α → D} {Γf : β → List Sl} {po : α ⊕ γ → Fl → SE → Prop} (h : JS 𝕄 Γ f t (MxP ko enc Γf)) (hp : ∀ x fl en, RtP ko enc x fl en → po (.inl x) fl en) (hg : ∀ s, JS 𝕄 (Γf s) g (u s) po) :
    JS 𝕄 Γ (seqM f g) (𝕄.bind t fun z => Sum.elim (fun x => 𝕄.ret (.inl x)) u z) po := fun en b Q g0 p w => by
  obtain ⟨fl, z, en1, b1, h1, hz, r1, w1⟩ := h en b _ g0 p (𝕄.wp_bind w)
  cases z with
  | inl x =>
    have hz2 := hp x fl en1 hz
    obtain ⟨r, rfl, hr⟩ := hz
    exact ⟨_, .inl x, en1, b1, seq_rt h1, hz2, r1, 𝕄.wp_ret w1⟩
  | inr s =>
    obtain ⟨rfl, g1⟩ := hz
    obtain ⟨fl2, y, en2, b2, h2, p2, r2, w2⟩ := hg s en1 b1 Q g1 (𝕄.rp p r1) w1
    exact ⟨fl2, y, en2, b2, (seq_ok h1).trans h2, p2, 𝕄.rt r1 r2, w2⟩
theorem js_if {c : M Bool} {f g : M Fl} {tc : 𝕄.T Bool} {t1 t2 : 𝕄.T α} {po : α → Fl → SE → Prop} (hc : JE 𝕄 Γ c tc eB) (hf : JS 𝕄 Γ f t1 po) (hg : JS 𝕄 Γ g t2 po) : JS 𝕄 Γ (ifM c f g) (𝕄.bind tc fun k => if k then t1 else t2) po := fun en b Q g0 p w => by
  obtain ⟨r, k, en1, b1, h1, hk, g1, r1, w1⟩ := hc en b _ g0 p (𝕄.wp_bind w)
  cases hk
  rw [if_ok h1]
  cases r with
  | true =>
    obtain ⟨fl, x, en2, b2, h2, p2, r2, w2⟩ := hf en1 b1 Q g1 (𝕄.rp p r1) w1
    exact ⟨fl, x, en2, b2, h2, p2, 𝕄.rt r1 r2, w2⟩
  | false =>
    obtain ⟨fl, x, en2, b2, h2, p2, r2, w2⟩ := hg en1 b1 Q g1 (𝕄.rp p r1) w1
    exact ⟨fl, x, en2, b2, h2, p2, 𝕄.rt r1 r2, w2⟩
/-- if c: f, where f never falls through; then g -/
theorem js_ifx {c : M Bool} {f g : M Fl} {tc : 𝕄.T Bool} {t1 t2 : 𝕄.T α} {po po1 : α → Fl → SE → Prop} (hc : JE 𝕄 Γ c tc eB) (hf : JS 𝕄 Γ f t1 po1) (hp : ∀ x fl en, po1 x fl en → fl ≠ .nx ∧ po x fl en) (hg : JS 𝕄 Γ g t2 po) : JS 𝕄 Γ (seqM (ifM c f (M.ret .nx)) g) (𝕄.bind tc fun k => if k then t1 else t2) po := fun en b Q g0 p w => by
  obtain ⟨r, k, en1, b1, h1, hk, g1, r1, w1⟩ := hc en b _ g0 p (𝕄.wp_bind w)
  cases hk
  cases r with
  | true =>
    obtain ⟨fl, x, en2, b2, h2, p2, r2, w2⟩ := hf en1 b1 Q g1 (𝕄.rp p r1) w1
    obtain ⟨n2, p3⟩ := hp _ _ _ p2
    refine ⟨fl, x, en2, b2, ?_, p3, 𝕄.rt r1 r2, w2⟩
    unfold seqM
    rw [bind_ok ((if_ok h1).trans h2)]
    cases fl with
    | nx => exact absurd rfl n2
    | brk => rfl
    | ct => rfl
    | rt r => rfl
  | false =>
    obtain ⟨fl, x, en2, b2, h2, p2, r2, w2⟩ := hg en1 b1 Q g1 (𝕄.rp p r1) w1
    exact ⟨fl, x, en2, b2, (seq_ok (if_ok h1)).trans h2, p2, 𝕄.rt r1 r2, w2⟩
theorem rt_nnx {ko : Option Bool} {enc : α → D} : ∀ x fl en, RtP ko enc x fl en → fl ≠ .nx ∧ RtP ko enc x fl en := fun x fl en h => ⟨(by obtain ⟨r, rfl, _⟩ := h; exact fun e => by cases e), h⟩
theorem js_ret {f : M (Bool × D)} {t : 𝕄.T α} {ko : Option Bool} {enc : α → D} (h : JE 𝕄 Γ f t (eX ko enc)) : JS 𝕄 Γ (retM f) t (RtP ko enc) := fun en b Q g p w => by
  obtain ⟨r, x, en1, b1, h1, hx, g1, r1, w1⟩ := h en b _ g p w
  exact ⟨_, x, en1, b1, ret_ok h1, ⟨r, rfl, hx⟩, r1, w1⟩
theorem js_retN {i : Nat} {x : α} {enc : α → D} (h : (Γ[i]?.bind Sl.dat) = some (enc x)) : JS 𝕄 Γ (retN i) (𝕄.ret x) (RtP none enc) := fun en b Q g p w => by
  obtain ⟨k, hk⟩ := Sl.dat_get g h
  exact ⟨.rt (k, enc x), x, en.set i none, b, by unfold retN; rw [hk], ⟨_, rfl, rfl, fun q e => by cases e⟩, 𝕄.rr p, 𝕄.wp_ret w⟩
theorem js_retO {i : Nat} {x : α} {enc : α → D} (h : Γ[i]? = some (.own (enc x))) : JS 𝕄 Γ (retN i) (𝕄.ret x) (RtP (some true) enc) := fun en b Q g p w => by
  obtain ⟨y, hy, hk⟩ := g.get h
  cases hk
  exact ⟨.rt (true, enc x), x, en.set i none, b, by unfold retN; rw [hy], ⟨_, rfl, rfl, fun q e => by cases e; rfl⟩, 𝕄.rr p, 𝕄.wp_ret w⟩
theorem js_ko {f : M Fl} {t : 𝕄.T α} {ko : Option Bool} {enc : α → D} (h : JS 𝕄 Γ f t (RtP ko enc)) : JS 𝕄 Γ f t (RtP none enc) := js_post h fun x fl en ⟨r, e, h⟩ => ⟨r, e, h.1, fun q e => by cases e⟩
theorem js_inl {f : M Fl} {t : 𝕄.T α} {ko : Option Bool} {enc : α → D} {po : α ⊕ β → Fl → SE → Prop} (h : JS 𝕄 Γ f t (RtP ko enc)) (hp : ∀ x fl en, RtP ko enc x fl en → po (.inl x) fl en) : JS 𝕄 Γ f (𝕄.bind t fun x => 𝕄.ret (.inl x)) po := fun en b Q g p w => by
  obtain ⟨fl, x, en1, b1, h1, h2, r1, w1⟩ := h en b _ g p (𝕄.wp_bind w)
  exact ⟨fl, .inl x, en1, b1, h1, hp _ _ _ h2, r1, 𝕄.wp_ret w1⟩
theorem js_nx {s : α} {Γf : α → List Sl} (h : Wk Γ (Γf s)) : JS 𝕄 Γ (M.ret .nx) (𝕄.ret s) (NxP Γf) := fun en b Q g p w => ⟨.nx, s, en, b, rfl, ⟨rfl, h.go g⟩, 𝕄.rr p, 𝕄.wp_ret w⟩
theorem js_nxB {s : α} {Γf : α → List Sl} (h : Wk Γ (Γf s)) : JS 𝕄 Γ (M.ret .nx) (𝕄.ret s) (BdP Γf) := fun en b Q g p w => ⟨.nx, s, en, b, rfl, ⟨.inl rfl, h.go g⟩, 𝕄.rr p, 𝕄.wp_ret w⟩
theorem js_nxM {s : β} {Γf : β → List Sl} {ko : Option Bool} {enc : α → D} (h : Wk Γ (Γf s)) : JS 𝕄 Γ (M.ret .nx) (𝕄.ret (.inr s)) (MxP ko enc Γf) := fun en b Q g p w => ⟨.nx, .inr s, en, b, rfl, ⟨rfl, h.go g⟩, 𝕄.rr p, 𝕄.wp_ret w⟩
theorem js_nxMB {s : β} {Γf : β → List Sl} {ko : Option Bool} {enc : α → D} (h : Wk Γ (Γf s)) : JS 𝕄 Γ (M.ret .nx) (𝕄.ret (.inr s)) (MbP ko enc Γf) := fun en b Q g p w => ⟨.nx, .inr s, en, b, rfl, ⟨.inl rfl, h.go g⟩, 𝕄.rr p, 𝕄.wp_ret w⟩
theorem js_ct {s : α} {Γf : α → List Sl} (h : Wk Γ (Γf s)) : JS 𝕄 Γ (M.ret .ct) (𝕄.ret s) (CtP Γf) := fun en b Q g p w => ⟨.ct, s, en, b, rfl, ⟨rfl, h.go g⟩, 𝕄.rr p, 𝕄.wp_ret w⟩
theorem js_nxK {s : β} {Γf : β → List Sl} (h : Wk Γ (Γf s)) : JS 𝕄 Γ (M.ret .nx) (𝕄.ret (.inr s)) (BkP Γf) := fun en b Q g p w => ⟨.nx, .inr s, en, b, rfl, ⟨.inl rfl, h.go g⟩, 𝕄.rr p, 𝕄.wp_ret w⟩
theorem js_brk {s : β} {Γf : β → List Sl} (h : Wk Γ (Γf s)) : JS 𝕄 Γ (M.ret .brk) (𝕄.ret (.inl s)) (BkP Γf) := fun en b Q g p w => ⟨.brk, .inl s, en, b, rfl, ⟨rfl, h.go g⟩, 𝕄.rr p, 𝕄.wp_ret w⟩
/-- the last of a block: what falls through takes the state from it -/
theorem js_last {f : M Fl} {t : 𝕄.T α} {Γf : α → List Sl} {u : α → 𝕄.T β} {po : β → Fl → SE → Prop} (h : JS 𝕄 Γ f t (NxP Γf)) (hu : ∀ s, JS 𝕄 (Γf s) (M.ret .nx) (u s) po) : JS 𝕄 Γ f (𝕄.bind t u) po := fun en b Q g0 p w => by
  obtain ⟨fl, x, en1, b1, h1, ⟨rfl, g1⟩, r1, w1⟩ := h en b _ g0 p (𝕄.wp_bind w)
  obtain ⟨fl2, y, en2, b2, h2, p2, r2, w2⟩ := hu x en1 b1 Q g1 (𝕄.rp p r1) w1
  cases h2
  exact ⟨.nx, y, en1, b1, h1, p2, 𝕄.rt r1 r2, w2⟩
def slot (ko : Option Bool) (d : D) : Sl := match ko with
  | some true => .own d
  | _ => .val d
theorem slot_ok {ko : Option Bool} {enc : α → D} {x : α} {r : Bool × D} (h : eX ko enc x r) : SlR (slot ko (enc x)) (some r) := by
  obtain ⟨k, d⟩ := r
  obtain ⟨h1, h2⟩ := h
  cases h1
  match ko, h2 with
  | some true, h2 => cases h2 true rfl; rfl
  | some false, _ => exact ⟨k, rfl⟩
  | none, _ => exact ⟨k, rfl⟩
theorem js_asg {i : Nat} {f : M (Bool × D)} {t : 𝕄.T α} {ko : Option Bool} {enc : α → D} (hi : i < Γ.length) (h : JE 𝕄 Γ f t (eX ko enc)) : JS 𝕄 Γ (asgM i f) t (NxP fun x => Γ.set i (slot ko (enc x))) := fun en b Q g p w => by
  obtain ⟨r, x, en1, b1, h1, hx, g1, r1, w1⟩ := h en b _ g p w
  exact ⟨.nx, x, _, b1, asg_ok h1 (by rw [g1.len]; exact hi), ⟨rfl, g1.set i (slot_ok hx)⟩, r1, w1⟩
theorem js_asgO {i : Nat} {f : M (Bool × D)} {t : 𝕄.T α} {enc : α → D} (hi : i < Γ.length) (h : JE 𝕄 Γ f t (eX (some true) enc)) : JS 𝕄 Γ (asgM i f) t (NxP fun x => Γ.set i (.own (enc x))) := js_asg hi h
theorem js_asgF {i : Nat} {f : M (Bool × D)} {t : 𝕄.T α} {ko : Option Bool} {enc : α → D} (hi : i < Γ.length) (h : JE 𝕄 Γ f t (eX ko enc)) : JS 𝕄 Γ (asgM i f) t (NxP fun x => Γ.set i (.val (enc x))) := js_asg (ko := none) hi (je_ko h)
theorem js_asgG {f : M D} {gt : D → M Unit} {t : 𝕄.T α} {enc : α → D} {Γb : α → List Sl} (h : JE 𝕄 Γ f t (eE enc)) (hg : ∀ x, TGx Γ gt (enc x) (Γb x)) : JS 𝕄 Γ (asgG f gt) t (NxP Γb) := fun en b Q g p w => by
  obtain ⟨r, x, en1, b1, h1, hx, g1, r1, w1⟩ := h en b _ g p w
  cases hx
  obtain ⟨en2, h2, g2⟩ := hg x en1 b1 g1
  refine ⟨.nx, x, en2, b1, ?_, ⟨rfl, g2⟩, r1, w1⟩
  unfold asgG
  rw [bind_ok h1]
  exact runG_ok h2
theorem js_drop {f : M D} {t : 𝕄.T α} {enc : α → D} (h : JE 𝕄 Γ f t (eE enc)) : JS 𝕄 Γ (dropM f) t (NxP fun _ => Γ) := fun en b Q g p w => by
  obtain ⟨r, x, en1, b1, h1, hx, g1, r1, w1⟩ := h en b _ g p w
  exact ⟨.nx, x, en1, b1, drop_ok h1, ⟨rfl, g1⟩, r1, w1⟩
/-! parallel: one operand behind another, then the names -/
theorem consR_bind {f : M (Bool × D)} {F : M (List (Bool × D))} {k : List (Bool × D) → M ρ} : (consR f F).bind k = f.bind fun x => F.bind fun xs => k (x :: xs) := by
  unfold consR
  rw [M.bind_assoc]
  congr 1
  funext x
  rw [M.bind_assoc]
  rfl
def parK (is : List Nat) (rs : List (Bool × D)) : M Fl := fun en b => if is.length = rs.length ∧ ∀ i ∈ is, i < en.length then .ok .nx (setsE en is rs) b else .stuck
def JK (𝕄 : Mn) (Γ : List Sl) (f : M Fl) (t : 𝕄.T α) (po : α → Fl → SE → Prop) : Prop := JS 𝕄 Γ f t po
theorem jp_par {is : List Nat} {f : M (List (Bool × D))} {g : M Fl} {t : 𝕄.T α} {po : α → Fl → SE → Prop} (h : JS 𝕄 Γ (f.bind fun rs => seqM (parK is rs) g) t po) : JS 𝕄 Γ (seqM (parM is f) g) t po := by
  have e : seqM (parM is f) g = f.bind fun rs => seqM (parK is rs) g := by
    exact M.bind_assoc (f := f) (g := parK is) (h := fun x => match x with | .nx => g | o => M.ret o)
  rw [e]
  exact h
theorem js_bind {f : M ρ} {k : ρ → M Fl} {t : 𝕄.T α} {u : α → 𝕄.T β} {e : α → ρ → Prop} {po : β → Fl → SE → Prop} (h : JE 𝕄 Γ f t e) (hk : ∀ x r, e x r → JS 𝕄 Γ (k r) (u x) po) : JS 𝕄 Γ (f.bind k) (𝕄.bind t u) po := fun en b Q g p w => by
  obtain ⟨r, x, en1, b1, h1, hx, g1, r1, w1⟩ := h en b _ g p (𝕄.wp_bind w)
  obtain ⟨fl, y, en2, b2, h2, hy, r2, w2⟩ := hk x r hx en1 b1 Q g1 (𝕄.rp p r1) w1
  exact ⟨fl, y, en2, b2, (bind_ok h1).trans h2, hy, 𝕄.rt r1 r2, w2⟩
/-- pairs (ko, data) that results have -/
inductive RsP : List (Option Bool × D) → List (Bool × D) → Prop
  | nil : RsP [] []
  | cons {ko : Option Bool} {d : D} {r : Bool × D} {ks : List (Option Bool × D)} {rs : List (Bool × D)} : r.2 = d → (∀ q, ko = some q → r.1 = q) → RsP ks rs → RsP ((ko, d) :: ks) (r :: rs)
def setsS (Γ : List Sl) : List Nat → List (Option Bool × D) → List Sl
  | i :: is, k :: ks => setsS (Γ.set i (slot k.1 k.2)) is ks
  | _, _ => Γ
theorem setsS_ok : ∀ {is : List Nat} {ks : List (Option Bool × D)} {rs : List (Bool × D)} {Γ : List Sl} {en : SE}, RsP ks rs → EnR Γ en → EnR (setsS Γ is ks) (setsE en is rs)
  | [], _, _, _, _, _, g => by
    unfold setsS setsE
    exact g
  | i :: is, _, _, _, _, .nil, g => g
  | i :: is, _, _, Γ, en, .cons (ko := ko) (d := d) (r := r) h1 h2 h3, g => setsS_ok (is := is) h3 (g.set i (slot_ok (enc := fun _ : Unit => d) (x := ()) ⟨h1, h2⟩))
theorem RsP.len {ks : List (Option Bool × D)} {rs : List (Bool × D)} (h : RsP ks rs) : rs.length = ks.length := by
  induction h with
  | nil => rfl
  | cons _ _ _ ih => simp [ih]
theorem setsS_len : ∀ {is : List Nat} {ks : List (Option Bool × D)} {Γ : List Sl}, (setsS Γ is ks).length = Γ.length
  | [], _, _ => by unfold setsS; rfl
  | i :: is, [], _ => rfl
  | i :: is, k :: ks, Γ => (setsS_len (is := is) (ks := ks) (Γ := Γ.set i (slot k.1 k.2))).trans (List.length_set ..)
/-- behind all operands -/
def JP (𝕄 : Mn) (Γ : List Sl) (ks : List (Option Bool × D)) (F : M (List (Bool × D))) (k : List (Bool × D) → M Fl) (t : 𝕄.T α) (po : α → Fl → SE → Prop) : Prop := ∀ rs, RsP ks rs → JS 𝕄 Γ (F.bind fun xs => k (rs ++ xs)) t po
theorem jp_start {f : M (List (Bool × D))} {k : List (Bool × D) → M Fl} {t : 𝕄.T α} {po : α → Fl → SE → Prop} (h : JP 𝕄 Γ [] f k t po) : JS 𝕄 Γ (f.bind k) t po := h [] .nil
theorem RsP.snoc {ks : List (Option Bool × D)} {rs : List (Bool × D)} {ko : Option Bool} {d : D} {r : Bool × D} (h : RsP ks rs) (h1 : r.2 = d) (h2 : ∀ q, ko = some q → r.1 = q) : RsP (ks ++ [(ko, d)]) (rs ++ [r]) := by
  induction h with
  | nil => exact .cons h1 h2 .nil
  | cons a b _ ih => exact .cons a b ih
theorem jp_cons {ks : List (Option Bool × D)} {f : M (Bool × D)} {F : M (List (Bool × D))} {k : List (Bool × D) → M Fl} {t : 𝕄.T α} {u : α → 𝕄.T β} {ko : Option Bool} {enc : α → D} {po : β → Fl → SE → Prop} (h : JE 𝕄 Γ f t (eX ko enc)) (hk : ∀ x, JP 𝕄 Γ (ks ++ [(ko, enc x)]) F k (u x) po) : JP 𝕄 Γ ks (consR f F) k (𝕄.bind t u) po := fun rs hr => by
  rw [consR_bind]
  refine js_bind h fun x r hx => ?_
  have := hk x (rs ++ [r]) (hr.snoc hx.1 hx.2)
  rw [show (fun xs => k (rs ++ r :: xs)) = fun xs => k (rs ++ [r] ++ xs) by funext xs; simp]
  exact this
theorem jp_nil {ks : List (Option Bool × D)} {is : List Nat} {g : M Fl} {t : 𝕄.T α} {po : α → Fl → SE → Prop} (hl : is.length = ks.length) (hi : ∀ i ∈ is, i < Γ.length) (h : JS 𝕄 (setsS Γ is ks) g t po) : JP 𝕄 Γ ks (M.ret []) (fun rs => seqM (parK is rs) g) t po := fun rs hr en b Q g0 p w => by
  obtain ⟨fl, x, en2, b2, h2, p2, r2, w2⟩ := h (setsE en is rs) b Q (setsS_ok hr g0) p w
  refine ⟨fl, x, en2, b2, ?_, p2, r2, w2⟩
  show seqM (parK is (rs ++ [])) g en b = _
  rw [List.append_nil]
  refine (seq_ok (e' := setsE en is rs) (b' := b) ?_).trans h2
  unfold parK
  rw [if_pos ⟨by rw [hr.len]; exact hl, fun i h => by rw [g0.len]; exact hi i h⟩]
/-! ### loops -/
def foldT (𝕄 : Mn) (u : σ → α → 𝕄.T σ) : List α → σ → 𝕄.T σ
  | [], s => 𝕄.ret s
  | x :: l, s => 𝕄.bind (u s x) fun s' => foldT 𝕄 u l s'
def foldR (𝕄 : Mn) (u : σ → α → 𝕄.T (β ⊕ σ)) : List α → σ → 𝕄.T (β ⊕ σ)
  | [], s => 𝕄.ret (.inr s)
  | x :: l, s => 𝕄.bind (u s x) fun z => Sum.elim (fun r => 𝕄.ret (.inl r)) (fun s' => foldR 𝕄 u l s') z
def foldB (𝕄 : Mn) (u : σ → α → 𝕄.T (σ ⊕ σ)) : List α → σ → 𝕄.T σ
  | [], s => 𝕄.ret s
  | x :: l, s => 𝕄.bind (u s x) fun z => Sum.elim (fun r => 𝕄.ret r) (fun s' => foldB 𝕄 u l s') z
theorem forM'_cons {gt : D → M Unit} {f : M Fl} {d : D} {ds : List D} {en e1 e2 : SE} {b b1 b2 : Bg} {fl : Fl} (h1 : gt d en b = .ok () e1 b1) (h2 : f e1 b1 = .ok fl e2 b2) : forM' gt f (d :: ds) en b = (match fl with
    | .nx => forM' gt f ds
    | .ct => forM' gt f ds
    | .brk => M.ret .nx
    | .rt r => M.ret (.rt r)) e2 b2 := by
  rw [show forM' gt f (d :: ds) = (runG (gt d)).bind _ from rfl, bind_ok (runG_ok h1)]
  rw [bind_ok h2]
  all_goals (cases fl <;> rfl)
theorem js_for {it : M (List D)} {gt : D → M Unit} {f : M Fl} {t : 𝕄.T (List α)} {enc : α → D} {s0 : σ} {u : σ → α → 𝕄.T σ} {Γs : σ → List Sl} {Γb : σ → α → List Sl} (hi : JE 𝕄 Γ it t (eW enc)) (h0 : Wk Γ (Γs s0)) (hg : ∀ s x, TGx (Γs s) gt (enc x) (Γb s x)) (hb : ∀ s x, JS 𝕄 (Γb s x) f (u s x) (BdP Γs)) :
    JS 𝕄 Γ (loopM it gt f) (𝕄.bind t fun l => foldT 𝕄 u l s0) (NxP Γs) := fun en b Q g p w => by
  obtain ⟨ds, l, en1, b1, h1, hl, g1, r1, w1⟩ := hi en b _ g p (𝕄.wp_bind w)
  cases hl
  have key : ∀ (l : List α) (s : σ) (en : SE) (b : Bg), EnR (Γs s) en → 𝕄.P b → 𝕄.wp (foldT 𝕄 u l s) Q → ∃ s' en' b', forM' gt f (l.map enc) en b = .ok .nx en' b' ∧ EnR (Γs s') en' ∧ 𝕄.R b b' ∧ Q s' := by
    intro l
    induction l with
    | nil => intro s en b g p w; exact ⟨s, en, b, rfl, g, 𝕄.rr p, 𝕄.wp_ret w⟩
    | cons x l ih =>
      intro s en b g p w
      obtain ⟨ea, ka, ga⟩ := hg s x en b g
      obtain ⟨fl, s', ec, bc, kc, ⟨hf, gc⟩, rc, wc⟩ := hb s x ea b _ ga p (𝕄.wp_bind w)
      obtain ⟨s2, e2, b2, k2, g2, r2, q2⟩ := ih s' ec bc gc (𝕄.rp p rc) wc
      refine ⟨s2, e2, b2, ?_, g2, 𝕄.rt rc r2, q2⟩
      rw [List.map_cons, forM'_cons ka kc]
      rcases hf with rfl | rfl
      · exact k2
      · exact k2
  obtain ⟨s', e2, b2, k2, g2, r2, q2⟩ := key l s0 en1 b1 (h0.go g1) (𝕄.rp p r1) w1
  exact ⟨.nx, s', e2, b2, (loop_ok h1).trans k2, ⟨rfl, g2⟩, 𝕄.rt r1 r2, q2⟩
theorem js_forR {it : M (List D)} {gt : D → M Unit} {f : M Fl} {t : 𝕄.T (List α)} {enc : α → D} {s0 : σ} {u : σ → α → 𝕄.T (β ⊕ σ)} {Γs : σ → List Sl} {Γb : σ → α → List Sl} {ko : Option Bool} {er : β → D} (hi : JE 𝕄 Γ it t (eW enc)) (h0 : Wk Γ (Γs s0)) (hg : ∀ s x, TGx (Γs s) gt (enc x) (Γb s x)) (hb : ∀ s x, JS 𝕄 (Γb s x) f (u s x) (MbP ko er Γs)) :
    JS 𝕄 Γ (loopM it gt f) (𝕄.bind t fun l => foldR 𝕄 u l s0) (MxP ko er Γs) := fun en b Q g p w => by
  obtain ⟨ds, l, en1, b1, h1, hl, g1, r1, w1⟩ := hi en b _ g p (𝕄.wp_bind w)
  cases hl
  have key : ∀ (l : List α) (s : σ) (en : SE) (b : Bg), EnR (Γs s) en → 𝕄.P b → 𝕄.wp (foldR 𝕄 u l s) Q → ∃ fl z en' b', forM' gt f (l.map enc) en b = .ok fl en' b' ∧ MxP ko er Γs z fl en' ∧ 𝕄.R b b' ∧ Q z := by
    intro l
    induction l with
    | nil => intro s en b g p w; exact ⟨.nx, .inr s, en, b, rfl, ⟨rfl, g⟩, 𝕄.rr p, 𝕄.wp_ret w⟩
    | cons x l ih =>
      intro s en b g p w
      obtain ⟨ea, ka, ga⟩ := hg s x en b g
      obtain ⟨fl, z, ec, bc, kc, hz, rc, wc⟩ := hb s x ea b _ ga p (𝕄.wp_bind w)
      cases z with
      | inl y =>
        obtain ⟨r, rfl, hr⟩ := hz
        refine ⟨.rt r, .inl y, ec, bc, ?_, ⟨r, rfl, hr⟩, rc, 𝕄.wp_ret wc⟩
        rw [List.map_cons, forM'_cons ka kc]
        rfl
      | inr s' =>
        obtain ⟨hf, gc⟩ := hz
        obtain ⟨fl2, s2, e2, b2, k2, g2, r2, q2⟩ := ih s' ec bc gc (𝕄.rp p rc) wc
        refine ⟨fl2, s2, e2, b2, ?_, g2, 𝕄.rt rc r2, q2⟩
        rw [List.map_cons, forM'_cons ka kc]
        rcases hf with rfl | rfl
        · exact k2
        · exact k2
  obtain ⟨fl, z, e2, b2, k2, g2, r2, q2⟩ := key l s0 en1 b1 (h0.go g1) (𝕄.rp p r1) w1
  exact ⟨fl, z, e2, b2, (loop_ok h1).trans k2, g2, 𝕄.rt r1 r2, q2⟩
theorem js_forB {it : M (List D)} {gt : D → M Unit} {f : M Fl} {t : 𝕄.T (List α)} {enc : α → D} {s0 : σ} {u : σ → α → 𝕄.T (σ ⊕ σ)} {Γs : σ → List Sl} {Γb : σ → α → List Sl} (hi : JE 𝕄 Γ it t (eW enc)) (h0 : Wk Γ (Γs s0)) (hg : ∀ s x, TGx (Γs s) gt (enc x) (Γb s x)) (hb : ∀ s x, JS 𝕄 (Γb s x) f (u s x) (BkP Γs)) :
    JS 𝕄 Γ (loopM it gt f) (𝕄.bind t fun l => foldB 𝕄 u l s0) (NxP Γs) := fun en b Q g p w => by
  obtain ⟨ds, l, en1, b1, h1, hl, g1, r1, w1⟩ := hi en b _ g p (𝕄.wp_bind w)
  cases hl
  have key : ∀ (l : List α) (s : σ) (en : SE) (b : Bg), EnR (Γs s) en → 𝕄.P b → 𝕄.wp (foldB 𝕄 u l s) Q → ∃ s' en' b', forM' gt f (l.map enc) en b = .ok .nx en' b' ∧ EnR (Γs s') en' ∧ 𝕄.R b b' ∧ Q s' := by
    intro l
    induction l with
    | nil => intro s en b g p w; exact ⟨s, en, b, rfl, g, 𝕄.rr p, 𝕄.wp_ret w⟩
    | cons x l ih =>
      intro s en b g p w
      obtain ⟨ea, ka, ga⟩ := hg s x en b g
      obtain ⟨fl, z, ec, bc, kc, hz, rc, wc⟩ := hb s x ea b _ ga p (𝕄.wp_bind w)
      cases z with
      | inl s' =>
        obtain ⟨rfl, gc⟩ := hz
        refine ⟨s', ec, bc, ?_, gc, rc, 𝕄.wp_ret wc⟩
        rw [List.map_cons, forM'_cons ka kc]
        rfl
      | inr s' =>
        obtain ⟨hf, gc⟩ := hz
        obtain ⟨s2, e2, b2, k2, g2, r2, q2⟩ := ih s' ec bc gc (𝕄.rp p rc) wc
        refine ⟨s2, e2, b2, ?_, g2, 𝕄.rt rc r2, q2⟩
        rw [List.map_cons, forM'_cons ka kc]
        rcases hf with rfl | rfl
        · exact k2
        · exact k2
  obtain ⟨s', e2, b2, k2, g2, r2, q2⟩ := key l s0 en1 b1 (h0.go g1) (𝕄.rp p r1) w1
  exact ⟨.nx, s', e2, b2, (loop_ok h1).trans k2, ⟨rfl, g2⟩, 𝕄.rt r1 r2, q2⟩
def whileT (𝕄 : Mn) (tc : σ → 𝕄.T Bool) (u : σ → 𝕄.T σ) : Nat → σ → 𝕄.T σ
  | 0, _ => 𝕄.lift none
  | n + 1, s => 𝕄.bind (tc s) fun k => if k then 𝕄.bind (u s) fun s' => whileT 𝕄 tc u n s' else 𝕄.ret s
theorem js_while {n : Nat} {c : M Bool} {f : M Fl} {s0 : σ} {tc : σ → 𝕄.T Bool} {u : σ → 𝕄.T σ} {Γs : σ → List Sl} (h0 : Wk Γ (Γs s0)) (hc : ∀ s, JE 𝕄 (Γs s) c (tc s) eB) (hb : ∀ s, JS 𝕄 (Γs s) f (u s) (BdP Γs)) :
    JS 𝕄 Γ (whileM n c f) (whileT 𝕄 tc u n s0) (NxP Γs) := fun en b Q g p w => by
  have key : ∀ (n : Nat) (s : σ) (en : SE) (b : Bg), EnR (Γs s) en → 𝕄.P b → 𝕄.wp (whileT 𝕄 tc u n s) Q → ∃ s' en' b', whileM n c f en b = .ok .nx en' b' ∧ EnR (Γs s') en' ∧ 𝕄.R b b' ∧ Q s' := by
    intro n
    induction n with
    | zero => intro s en b g p w; obtain ⟨_, e, _⟩ := 𝕄.wp_lift w; cases e
    | succ n ih =>
      intro s en b g p w
      obtain ⟨k, k', ea, ba, ka, hk, ga, ra, wa⟩ := hc s en b _ g p (𝕄.wp_bind w)
      cases hk
      cases k with
      | false =>
        refine ⟨s, ea, ba, ?_, ga, ra, 𝕄.wp_ret wa⟩
        unfold whileM
        rw [bind_ok ka]
        rfl
      | true =>
        obtain ⟨fl, s', ec, bc, kc, ⟨hf, gc⟩, rc, wc⟩ := hb s ea ba _ ga (𝕄.rp p ra) (𝕄.wp_bind wa)
        obtain ⟨s2, e2, b2, k2, g2, r2, q2⟩ := ih s' ec bc gc (𝕄.rp (𝕄.rp p ra) rc) wc
        refine ⟨s2, e2, b2, ?_, g2, 𝕄.rt ra (𝕄.rt rc r2), q2⟩
        unfold whileM
        rw [bind_ok ka]
        dsimp only
        rw [bind_ok kc]
        rcases hf with rfl | rfl
        · exact k2
        · exact k2
  obtain ⟨s', e2, b2, k2, g2, r2, q2⟩ := key n s0 en b (h0.go g) p w
  exact ⟨.nx, s', e2, b2, k2, ⟨rfl, g2⟩, r2, q2⟩
/-! ### lists that a name owns -/
def pushO (l : List α) (x : α) : Option (List α) := if l.length < 2 ^ 20 then some (l ++ [x]) else none
def catO (l l2 : List α) : Option (List α) := if l.length + l2.length ≤ 2 ^ 20 then some (l ++ l2) else none
def setO (l : List α) (k : Nat) (x : α) : Option (List α) := if k < l.length then some (l.set k x) else none
def popAtO (l : List α) (k : Nat) : Option (α × List α) := (l[k]?).bind fun x => if l.length ≤ 2 ^ 20 then some (x, l.eraseIdx k) else none
def popO (l : List α) : Option (α × List α) := (l.getLast?).map fun x => (x, l.dropLast)
/-- a value, with the names changed -/
def JV (𝕄 : Mn) (Γ : List Sl) (f : M D) (t : 𝕄.T α) (e : α → D) (Γf : α → List Sl) : Prop :=
  ∀ (en : SE) (b : Bg) (Q : α → Prop), EnR Γ en → 𝕄.P b → 𝕄.wp t Q → ∃ x en' b', f en b = .ok (e x) en' b' ∧ EnR (Γf x) en' ∧ 𝕄.R b b' ∧ Q x
theorem jv_of {f : M D} {t : 𝕄.T α} {e : α → D} (h : JE 𝕄 Γ f t (eE e)) : JV 𝕄 Γ f t e fun _ => Γ := fun en b Q g p w => by
  obtain ⟨r, x, en1, b1, h1, hx, g1, r1, w1⟩ := h en b _ g p w
  cases hx
  exact ⟨x, en1, b1, h1, g1, r1, w1⟩
/-- a method with one operand -/
theorem jv_meth {i : Nat} {o : List D → List D → Option (List D × D)} {f : M D} {l : List α} {enc : α → D} {t : 𝕄.T β} {eb : β → D} {Γf : β → List Sl} {o' : β → Option γ} {er : γ → D} {el : γ → List α} (h0 : Γ[i]? = some (.own (eL enc l))) (h1 : ∀ x, (Γf x)[i]? = some (.own (eL enc l))) (hf : JV 𝕄 Γ f t eb Γf)
    (ho : ∀ x z, o' x = some z → o (l.map enc) [eb x] = some ((el z).map enc, er z)) {Γz : β → γ → List Sl} (hz : ∀ x z, Γz x z = (Γf x).set i (.own (eL enc (el z)))) :
    JV 𝕄 Γ (methM i o (consM f (M.ret []))) (𝕄.bind t fun x => 𝕄.bind (𝕄.lift (o' x)) fun z => 𝕄.ret (x, z)) (fun p => er p.2) (fun p => Γz p.1 p.2) := fun en b Q g p w => by
  obtain ⟨y, hy, hk⟩ := g.get h0
  cases hk
  obtain ⟨x, en1, b1, k1, g1, r1, w1⟩ := hf en b _ g p (𝕄.wp_bind w)
  obtain ⟨z, hz', w2⟩ := 𝕄.wp_lift (𝕄.wp_bind w1)
  obtain ⟨y2, hy2, hk2⟩ := g1.get (h1 x)
  cases hk2
  refine ⟨(x, z), en1.set i (some (true, .list ((el z).map enc))), b1, ?_, ?_, r1, 𝕄.wp_ret w2⟩
  · unfold methM
    have e1 : ownL i en b = .ok (l.map enc) en b := by unfold ownL; rw [hy]; rfl
    rw [bind_ok e1]
    have e2 : consM f (M.ret []) en b = .ok [eb x] en1 b1 := cons_ok k1 rfl
    rw [bind_ok e2]
    exact putL_at hy2 (ho x z hz')
  · show EnR (Γz x z) _
    rw [hz]
    exact g1.set i rfl
theorem push_ok {l : List α} {enc : α → D} {x : α} {z : List α} (h : pushO l x = some z) : oAppend (l.map enc) [enc x] = some (z.map enc, .none) := by
  unfold pushO at h
  by_cases hl : l.length < 2 ^ 20
  · rw [if_pos hl] at h
    cases h
    show (if (l.map enc).length < sizeLine then some (l.map enc ++ [enc x], PyData.none) else none) = _
    rw [if_pos (by rw [List.length_map]; unfold sizeLine; omega)]
    simp
  · rw [if_neg hl] at h
    cases h
theorem ext_ok {l z : List α} {enc : α → D} {x : List α} (h : catO l x = some z) : oExtend (l.map enc) [eL enc x] = some (z.map enc, .none) := by
  unfold catO at h
  by_cases hl : l.length + x.length ≤ 2 ^ 20
  · rw [if_pos hl] at h
    cases h
    show (if (l.map enc).length + (x.map enc).length ≤ sizeLine then some (l.map enc ++ x.map enc, PyData.none) else none) = _
    rw [if_pos (by rw [List.length_map, List.length_map]; unfold sizeLine; omega)]
    simp
  · rw [if_neg hl] at h
    cases h
theorem eraseIdx_mp {enc : α → D} : ∀ (l : List α) (k : Nat), (l.map enc).eraseIdx k = (l.eraseIdx k).map enc
  | [], _ => rfl
  | _ :: _, 0 => rfl
  | x :: l, k + 1 => congrArg (enc x :: ·) (eraseIdx_mp l k)
theorem popAt_ok {l : List α} {enc : α → D} {k : Nat} {z : α × List α} (h : popAtO l k = some z) : oPopAt (l.map enc) [nI k] = some (z.2.map enc, enc z.1) := by
  unfold popAtO at h
  cases hk : l[k]? with
  | none => rw [hk] at h; cases h
  | some x =>
    rw [hk] at h
    have h : (if l.length ≤ 2 ^ 20 then some (x, l.eraseIdx k) else none) = some z := h
    by_cases hl : l.length ≤ 2 ^ 20
    · rw [if_pos hl] at h
      cases h
      have hlt : k < l.length := (List.getElem?_eq_some_iff.mp hk).1
      refine (oPopAt_i _ _).trans ?_
      rw [if_pos (by simp only [Bool.and_eq_true, decide_eq_true_eq]; omega)]
      have hs : seqIndex? (k : Int) (l.map enc).length = some k := by
        rw [List.length_map]
        unfold seqIndex?
        simp only [show ¬ ((k : Int) < 0) by omega, if_false]
        simp [hlt]
      rw [hs]
      show ((l.map enc)[k]?).map _ = _
      rw [List.getElem?_map, hk]
      show some (_, _) = _
      rw [eraseIdx_mp]
    · rw [if_neg hl] at h
      cases h
/-- x = .. .pop(..) -/
theorem js_asgV {j : Nat} {f : M D} {t : 𝕄.T α} {e : α → D} {Γf : α → List Sl} (hj : ∀ x, j < (Γf x).length) (h : JV 𝕄 Γ f t e Γf) : JS 𝕄 Γ (asgM j (fr f)) t (NxP fun x => (Γf x).set j (.val (e x))) := fun en b Q g p w => by
  obtain ⟨x, en1, b1, h1, g1, r1, w1⟩ := h en b _ g p w
  exact ⟨.nx, x, _, b1, asg_ok (fr_ok h1) (by rw [g1.len]; exact hj x), ⟨rfl, g1.set j ⟨false, rfl⟩⟩, r1, w1⟩
theorem js_dropV {f : M D} {t : 𝕄.T α} {e : α → D} {Γf : α → List Sl} (h : JV 𝕄 Γ f t e Γf) : JS 𝕄 Γ (dropM f) t (NxP Γf) := fun en b Q g p w => by
  obtain ⟨x, en1, b1, h1, g1, r1, w1⟩ := h en b _ g p w
  exact ⟨.nx, x, en1, b1, drop_ok h1, ⟨rfl, g1⟩, r1, w1⟩
/-- x.append(e), x.extend(e) -/
theorem js_meth {i : Nat} {o : List D → List D → Option (List D × D)} {f : M D} {l : List α} {enc : α → D} {t : 𝕄.T β} {eb : β → D} {o' : β → Option (List α)} {rr : D} (h0 : Γ[i]? = some (.own (eL enc l))) (ho : ∀ x z, o' x = some z → o (l.map enc) [eb x] = some (z.map enc, rr)) (hf : JE 𝕄 Γ f t (eE eb)) :
    JS 𝕄 Γ (dropM (methM i o (consM f (M.ret [])))) (𝕄.bind t fun x => 𝕄.lift (o' x)) (NxP fun z => Γ.set i (.own (eL enc z))) := fun en b Q g p w => by
  obtain ⟨y, hy, hk⟩ := g.get h0
  cases hk
  obtain ⟨r, x, en1, b1, k1, hx, g1, r1, w1⟩ := hf en b _ g p (𝕄.wp_bind w)
  cases hx
  obtain ⟨z, hz', w2⟩ := 𝕄.wp_lift w1
  obtain ⟨y2, hy2, hk2⟩ := g1.get h0
  cases hk2
  refine ⟨.nx, z, en1.set i (some (true, .list (z.map enc))), b1, drop_ok (d := rr) ?_, ⟨rfl, g1.set i rfl⟩, r1, w2⟩
  unfold methM
  have e1 : ownL i en b = .ok (l.map enc) en b := by unfold ownL; rw [hy]; rfl
  rw [bind_ok e1]
  have e2 : consM f (M.ret []) en b = .ok [eb x] en1 b1 := cons_ok k1 rfl
  rw [bind_ok e2]
  exact putL_at hy2 (ho x z hz')
theorem js_push {i : Nat} {f : M D} {l : List α} {enc : α → D} {t : 𝕄.T α} (h0 : Γ[i]? = some (.own (eL enc l))) (hf : JE 𝕄 Γ f t (eE enc)) :
    JS 𝕄 Γ (dropM (methM i oAppend (consM f (M.ret [])))) (𝕄.bind t fun x => 𝕄.lift (pushO l x)) (NxP fun z => Γ.set i (.own (eL enc z))) := js_meth h0 (fun _ _ h => push_ok h) hf
theorem js_ext {i : Nat} {f : M D} {l : List α} {enc : α → D} {t : 𝕄.T (List α)} (h0 : Γ[i]? = some (.own (eL enc l))) (hf : JE 𝕄 Γ f t (eE (eL enc))) :
    JS 𝕄 Γ (dropM (methM i oExtend (consM f (M.ret [])))) (𝕄.bind t fun x => 𝕄.lift (catO l x)) (NxP fun z => Γ.set i (.own (eL enc z))) := js_meth h0 (fun _ _ h => ext_ok h) hf
/-- x.pop(e) -/
theorem jv_popAt {i : Nat} {f : M D} {l : List α} {enc : α → D} {t : 𝕄.T Nat} (h0 : Γ[i]? = some (.own (eL enc l))) (hf : JE 𝕄 Γ f t (eE nI)) :
    JV 𝕄 Γ (methM i oPopAt (consM f (M.ret []))) (𝕄.bind t fun k => 𝕄.lift (popAtO l k)) (fun p => enc p.1) (fun p => Γ.set i (.own (eL enc p.2))) := fun en b Q g p w => by
  obtain ⟨y, hy, hk⟩ := g.get h0
  cases hk
  obtain ⟨r, x, en1, b1, k1, hx, g1, r1, w1⟩ := hf en b _ g p (𝕄.wp_bind w)
  cases hx
  obtain ⟨z, hz', w2⟩ := 𝕄.wp_lift w1
  obtain ⟨y2, hy2, hk2⟩ := g1.get h0
  cases hk2
  refine ⟨z, en1.set i (some (true, .list (z.2.map enc))), b1, ?_, g1.set i rfl, r1, w2⟩
  unfold methM
  have e1 : ownL i en b = .ok (l.map enc) en b := by unfold ownL; rw [hy]; rfl
  rw [bind_ok e1]
  have e2 : consM f (M.ret []) en b = .ok [nI x] en1 b1 := cons_ok k1 rfl
  rw [bind_ok e2]
  exact putL_at hy2 (popAt_ok hz')
/-- x.pop() -/
theorem jv_pop {i : Nat} {l : List α} {enc : α → D} (h0 : Γ[i]? = some (.own (eL enc l))) :
    JV 𝕄 Γ (methM i oPop (M.ret [])) (𝕄.lift (popO l)) (fun p => enc p.1) (fun p => Γ.set i (.own (eL enc p.2))) := fun en b Q g p w => by
  obtain ⟨y, hy, hk⟩ := g.get h0
  cases hk
  obtain ⟨z, hz', w2⟩ := 𝕄.wp_lift w
  refine ⟨z, en.set i (some (true, .list (z.2.map enc))), b, ?_, g.set i rfl, 𝕄.rr p, w2⟩
  unfold methM
  have e1 : ownL i en b = .ok (l.map enc) en b := by unfold ownL; rw [hy]; rfl
  rw [bind_ok e1]
  rw [bind_ok (show M.ret [] en b = .ok [] en b from rfl)]
  have e3 : oPop (l.map enc) [] = some (z.2.map enc, enc z.1) := by
    unfold popO at hz'
    show (((l.map enc)[(l.map enc).length - 1]?).map fun x => ((l.map enc).dropLast, x)) = _
    rw [List.length_map, List.getElem?_map, ← List.getLast?_eq_getElem?]
    cases hl : l.getLast? with
    | none => rw [hl] at hz'; cases hz'
    | some x =>
      rw [hl] at hz'
      cases hz'
      show some (_, _) = _
      rw [List.map_dropLast]
  exact putL_at hy e3
/-- x.append(y.pop(e)) -/
theorem js_pushV {i : Nat} {f : M D} {l : List α} {enc : α → D} {t : 𝕄.T β} {eb : β → D} {Γf : β → List Sl} (φ : β → α) (hφ : ∀ x, eb x = enc (φ x)) (h0 : Γ[i]? = some (.own (eL enc l))) (h1 : ∀ x, (Γf x)[i]? = some (.own (eL enc l))) (hf : JV 𝕄 Γ f t eb Γf) :
    JS 𝕄 Γ (dropM (methM i oAppend (consM f (M.ret [])))) (𝕄.bind t fun x => 𝕄.bind (𝕄.lift (pushO l (φ x))) fun z => 𝕄.ret (x, z)) (NxP fun p => (Γf p.1).set i (.own (eL enc p.2))) :=
  js_dropV (jv_meth (o := oAppend) (o' := fun x => pushO l (φ x)) (er := fun _ => .none) (el := id) (Γz := fun x z => (Γf x).set i (.own (eL enc z))) h0 h1 hf (fun x z h => by rw [hφ]; exact push_ok h) (fun _ _ => rfl))
/-- x[k] = e -/
theorem js_setI {i : Nat} {f g : M D} {l : List α} {enc : α → D} {t : 𝕄.T α} {u : 𝕄.T Nat} (h0 : Γ[i]? = some (.own (eL enc l))) (hf : JE 𝕄 Γ f t (eE enc)) (hg : JE 𝕄 Γ g u (eE nI)) :
    JS 𝕄 Γ (asgI i f g) (𝕄.bind t fun x => 𝕄.bind u fun k => 𝕄.lift (setO l k x)) (NxP fun z => Γ.set i (.own (eL enc z))) := fun en b Q g0 p w => by
  obtain ⟨r, x, en1, b1, k1, hx, g1, r1, w1⟩ := hf en b _ g0 p (𝕄.wp_bind w)
  cases hx
  obtain ⟨r2, k, en2, b2, k2, hk, g2, r2', w2⟩ := hg en1 b1 _ g1 (𝕄.rp p r1) (𝕄.wp_bind w1)
  cases hk
  obtain ⟨z, hz, w3⟩ := 𝕄.wp_lift w2
  obtain ⟨y, hy, hyk⟩ := g1.get h0
  cases hyk
  obtain ⟨y2, hy2, hyk2⟩ := g2.get h0
  cases hyk2
  unfold setO at hz
  by_cases hl : k < l.length
  · rw [if_pos hl] at hz
    cases hz
    refine ⟨.nx, l.set k x, en2.set i (some (true, .list ((l.set k x).map enc))), b2, ?_, ⟨rfl, g2.set i rfl⟩, 𝕄.rt r1 r2', w3⟩
    unfold asgI
    rw [bind_ok k1]
    have e1 : ownL i en1 b1 = .ok (l.map enc) en1 b1 := by unfold ownL; rw [hy]; rfl
    rw [bind_ok e1, bind_ok k2]
    have e3 : setItem' i (nI k) (enc x) en2 b2 = .ok () (en2.set i (some (true, .list ((l.set k x).map enc)))) b2 := by
      unfold setItem'
      rw [hy2]
      show (match ixN (l.map enc).length (k : Int) with | some j => Out.ok () (en2.set i (some (true, .list ((l.map enc).set j (enc x))))) b2 | none => .stuck) = _
      have hix : ixN (l.map enc).length (k : Int) = some k := by
        unfold ixN
        rw [List.length_map, if_pos (Int.natCast_nonneg k), if_pos (by omega)]
        simp
      rw [hix, List.map_set]
    rw [bind_ok e3]
    rfl
  · rw [if_neg hl] at hz
    cases hz
/-! ### defs -/
theorem jc_fn {n N : Nat} {body : M Fl} {ds : List D} {t : 𝕄.T α} {ko : Option Bool} {enc : α → D} (hn : ds.length = n) (h : JS 𝕄 (ds.map Sl.val ++ List.replicate (N - n) .no) body t (RtP ko enc)) : JC 𝕄 (fnM n N body) ds t ko enc := fun b Q p w => by
  have hen : ∀ (ds : List D) (m : Nat), EnR (ds.map Sl.val ++ List.replicate m .no) (ds.map (fun d => some (false, d)) ++ List.replicate m none) := by
    intro ds m
    induction ds with
    | nil =>
      induction m with
      | zero => exact trivial
      | succ m ih => exact ⟨trivial, ih⟩
    | cons d ds ih => exact ⟨⟨false, rfl⟩, ih⟩
  obtain ⟨fl, x, en', b', h1, ⟨r, rfl, hr⟩, r1, q⟩ := h _ b Q (hen ds _) p w
  exact ⟨r, x, b', fnM_ok hn h1, hr, r1, q⟩
/-! ### operators by types -/
theorem ob_and : OpB andD nI nI nI fun x y => some (x &&& y) := fun x y z h => by cases h; exact andD_n x y
theorem ob_or : OpB orD nI nI nI fun x y => some (x ||| y) := fun x y z h => by cases h; exact orD_n x y
theorem ob_xor : OpB xorD nI nI nI fun x y => some (x ^^^ y) := fun x y z h => by cases h; exact xorD_n x y
theorem ob_shr : OpB shrD nI nI nI fun x y => some (x >>> y) := fun x y z h => by cases h; exact shrD_n x y
def shlO (x y : Nat) : Option Nat := if x < 2 ^ 64 ∧ y ≤ 1000000 then some (x * 2 ^ y) else none
theorem ob_shl : OpB shlD nI nI nI shlO := fun x y z h => by
  unfold shlO at h
  by_cases c : x < 2 ^ 64 ∧ y ≤ 1000000
  · rw [if_pos c] at h
    cases h
    exact (shlD_n c.2 c.1).trans (by rw [Nat.shiftLeft_eq]; rfl)
  · rw [if_neg c] at h; cases h
def subO (x y : Nat) : Option Nat := if y ≤ x then some (x - y) else none
theorem ob_sub : OpB subD nI nI nI subO := fun x y z h => by
  unfold subO at h
  by_cases c : y ≤ x
  · rw [if_pos c] at h; cases h; exact subD_n c
  · rw [if_neg c] at h; cases h
def modO (x y : Nat) : Option Nat := if 0 < y then some (x % y) else none
theorem ob_mod : OpB modD nI nI nI modO := fun x y z h => by
  unfold modO at h
  by_cases c : 0 < y
  · rw [if_pos c] at h; cases h; exact modD_n c
  · rw [if_neg c] at h; cases h
def divO (x y : Nat) : Option Nat := if 0 < y ∧ y < 2 ^ 64 then some (x / y) else none
theorem ob_div : OpB fdivD nI nI nI divO := fun x y z h => by
  unfold divO at h
  by_cases c : 0 < y ∧ y < 2 ^ 64
  · rw [if_pos c] at h; cases h; exact fdivD_n c.1 c.2
  · rw [if_neg c] at h; cases h
def powO (x y : Nat) : Option Nat := if x < 2 ^ 64 ∧ y ≤ 1000000 then some (x ^ y) else none
theorem ob_pow : OpB powD nI nI nI powO := fun x y z h => by
  unfold powO at h
  by_cases c : x < 2 ^ 64 ∧ y ≤ 1000000
  · rw [if_pos c] at h
    cases h
    show powD (.int (x : Int)) (.int (y : Int)) = some (.int ((x ^ y : Nat) : Int))
    rw [powD_i (Int.natCast_nonneg y) (by omega) (by simpa using c.1), Int.toNat_natCast]
    simp
  · rw [if_neg c] at h; cases h
theorem ox_add : OpX addX nI nI (some false) nI fun x y => some (x + y) := fun x y z h => by cases h; exact ⟨_, addX_n x y, rfl, fun q e => by cases e; rfl⟩
def mulO (x y : Nat) : Option Nat := if x < 2 ^ 64 ∨ y < 2 ^ 64 then some (x * y) else none
theorem ox_mul : OpX mulX nI nI (some false) nI mulO := fun x y z h => by
  unfold mulO at h
  by_cases c : x < 2 ^ 64 ∨ y < 2 ^ 64
  · rw [if_pos c] at h
    cases h
    refine ⟨(false, nI (x * y)), ?_, rfl, fun q e => by cases e; rfl⟩
    show mulX (.int (x : Int)) (.int (y : Int)) = _
    rw [mulX_i (by unfold mulOk; simp only [decide_eq_true_eq]; omega)]
    unfold nI
    simp
  · rw [if_neg c] at h; cases h
theorem ox_cat {enc : α → D} : OpX addX (eL enc) (eL enc) (some true) (eL enc) catO := fun x y z h => by
  unfold catO at h
  by_cases hl : x.length + y.length ≤ 2 ^ 20
  · rw [if_pos hl] at h
    cases h
    refine ⟨(true, eL enc (x ++ y)), ?_, rfl, fun q e => by cases e; rfl⟩
    show (if (x.map enc).length + (y.map enc).length ≤ sizeLine then some (true, PyData.list (x.map enc ++ y.map enc)) else none) = _
    rw [if_pos (by rw [List.length_map, List.length_map]; unfold sizeLine; omega)]
    unfold eL
    simp
  · rw [if_neg hl] at h
    cases h
theorem ox_catT {enc : α → D} : OpX addX (eT enc) (eT enc) (some false) (eT enc) catO := fun x y z h => by
  unfold catO at h
  by_cases hl : x.length + y.length ≤ 2 ^ 20
  · rw [if_pos hl] at h
    cases h
    refine ⟨(false, eT enc (x ++ y)), ?_, rfl, fun q e => by cases e; rfl⟩
    show (if (x.map enc).length + (y.map enc).length ≤ sizeLine then some (false, PyData.tuple (x.map enc ++ y.map enc)) else none) = _
    rw [if_pos (by rw [List.length_map, List.length_map]; unfold sizeLine; omega)]
    unfold eT
    simp
  · rw [if_neg hl] at h
    cases h
def repO (x : List α) (k : Nat) : Option (List α) := if k < 2 ^ 20 ∧ x.length * k ≤ 2 ^ 20 then some (List.replicate k x).flatten else none
theorem ox_rep {enc : α → D} : OpX mulX (eL enc) nI (some true) (eL enc) repO := fun x k z h => by
  unfold repO at h
  by_cases hl : k < 2 ^ 20 ∧ x.length * k ≤ 2 ^ 20
  · rw [if_pos hl] at h
    cases h
    refine ⟨(true, eL enc (List.replicate k x).flatten), ?_, rfl, fun q e => by cases e; rfl⟩
    refine (mulX_L _ _).trans ?_
    rw [Int.toNat_natCast, if_pos (by simp only [Bool.and_eq_true, decide_eq_true_eq, List.length_map]; unfold sizeLine; omega)]
    unfold eL
    rw [List.map_flatten, List.map_replicate]
  · rw [if_neg hl] at h
    cases h
theorem ob_eq : OpB eqD nI nI PyData.bool fun x y => some (decide (x = y)) := fun x y z h => by cases h; exact eqD_n x y
theorem ob_ne : OpB neD nI nI PyData.bool fun x y => some (!decide (x = y)) := fun x y z h => by cases h; exact neD_n x y
theorem ob_lt : OpB ltD nI nI PyData.bool fun x y => some (decide (x < y)) := fun x y z h => by cases h; exact ltD_n x y
theorem ob_le : OpB leD nI nI PyData.bool fun x y => some (decide (x ≤ y)) := fun x y z h => by cases h; exact leD_n x y
theorem ob_gt : OpB gtD nI nI PyData.bool fun x y => some (decide (y < x)) := fun x y z h => by cases h; exact gtD_n x y
theorem ob_ge : OpB geD nI nI PyData.bool fun x y => some (decide (y ≤ x)) := fun x y z h => by cases h; exact geD_n x y
theorem ob_eqs : OpB eqD PyData.str PyData.str PyData.bool fun x y => some (decide (x = y)) := fun x y z h => by cases h; rfl
theorem ob_nes : OpB neD PyData.str PyData.str PyData.bool fun x y => some (!decide (x = y)) := fun x y z h => by cases h; rfl
theorem ob_eqb : OpB eqD PyData.bool PyData.bool PyData.bool fun x y => some (x == y) := fun x y z h => by cases h; cases x <;> cases y <;> rfl
theorem ob_neb : OpB neD PyData.bool PyData.bool PyData.bool fun x y => some (x != y) := fun x y z h => by cases h; cases x <;> cases y <;> rfl
theorem ob_isO {enc : α → D} (hn : ∀ x, enc x ≠ .none) : OpB isN (eO enc) eN PyData.bool fun x _ => some x.isNone := fun x y z h => by
  cases h
  cases x with
  | none => rfl
  | some x =>
    have := hn x
    show isN (enc x) .none = some (.bool false)
    unfold isN
    cases hx : enc x with
    | none => exact absurd hx this
    | _ => rfl
theorem ob_notO {enc : α → D} (hn : ∀ x, enc x ≠ .none) : OpB notN (eO enc) eN PyData.bool fun x _ => some x.isSome := fun x y z h => by
  cases h
  cases x with
  | none => rfl
  | some x =>
    have := hn x
    show notN (enc x) .none = some (.bool true)
    unfold notN
    cases hx : enc x with
    | none => exact absurd hx this
    | _ => rfl
def ixO (l : List α) (i : Nat) : Option α := l[i]?
theorem ob_ixL {enc : α → D} : OpB ixD (eL enc) nI enc ixO := fun l i z h => ixL_n (by rw [List.getElem?_map, show l[i]? = some z from h]; rfl)
theorem ob_ixT {enc : α → D} : OpB ixD (eT enc) nI enc ixO := fun l i z h => ixT_n (by rw [List.getElem?_map, show l[i]? = some z from h]; rfl)
/-- x[-1] and the like: the k-th from behind -/
def ixE (k : Nat) (l : List α) : Option α := if k ≤ l.length then l[l.length - k]? else none
def iI (i : Int) : D := .int i
theorem atI_e {l : List α} {enc : α → D} {k : Nat} {z : α} (hk : 0 < k) (h : ixE k l = some z) : atI (l.map enc) (-(k : Int)) = some (enc z) := by
  unfold ixE at h
  by_cases c : k ≤ l.length
  · rw [if_pos c] at h
    have hl : l.length - k < l.length := (List.getElem?_eq_some_iff.mp h).1
    unfold atI ixN
    rw [List.length_map, if_neg (by omega), if_pos (by omega)]
    show (l.map enc)[(-(k : Int) + (l.length : Int)).toNat]? = _
    rw [show (-(k : Int) + (l.length : Int)).toNat = l.length - k by omega, List.getElem?_map, h]
    rfl
  · rw [if_neg c] at h; cases h
theorem ob_ixLe {enc : α → D} (k : Nat) (hk : 0 < k) : OpB ixD (eL enc) (fun _ : Unit => .int (-(k : Int))) enc fun l _ => ixE k l := fun l i z h => atI_e hk h
theorem ob_ixTe {enc : α → D} (k : Nat) (hk : 0 < k) : OpB ixD (eT enc) (fun _ : Unit => .int (-(k : Int))) enc fun l _ => ixE k l := fun l i z h => atI_e hk h
theorem ob_P1 {ea : α → D} {eb : β → D} : OpB ixD (eP ea eb) nI ea fun p i => if i = 0 then some p.1 else none := fun p i z h => by
  dsimp only at h
  by_cases c : i = 0
  · subst c; cases h; rfl
  · rw [if_neg c] at h; cases h
theorem ou_len {enc : α → D} : OpU lenD (eL enc) (some false) nI fun l => some l.length := fun l z h => by
  cases h
  exact ⟨_, rfl, by show PyData.int ((l.map enc).length : Nat) = _; rw [List.length_map]; rfl, fun q e => by cases e; rfl⟩
theorem ou_lenT {enc : α → D} : OpU lenD (eT enc) (some false) nI fun l => some l.length := fun l z h => by
  cases h
  exact ⟨_, rfl, by show PyData.int ((l.map enc).length : Nat) = _; rw [List.length_map]; rfl, fun q e => by cases e; rfl⟩
theorem ou_tup {enc : α → D} : OpU tupOf (eL enc) (some false) (eT enc) fun l => some l := fun l z h => by cases h; exact ⟨_, rfl, rfl, fun q e => by cases e; rfl⟩
theorem ou_tupT {enc : α → D} : OpU tupOf (eT enc) (some false) (eT enc) fun l => some l := fun l z h => by cases h; exact ⟨_, rfl, rfl, fun q e => by cases e; rfl⟩
theorem ou_lst {enc : α → D} : OpU lstOf (eL enc) (some true) (eL enc) fun l => some l := fun l z h => by cases h; exact ⟨_, rfl, rfl, fun q e => by cases e; rfl⟩
theorem ou_lstT {enc : α → D} : OpU lstOf (eT enc) (some true) (eL enc) fun l => some l := fun l z h => by cases h; exact ⟨_, rfl, rfl, fun q e => by cases e; rfl⟩
theorem ou_rev {enc : α → D} : OpU revD (eL enc) (some true) (eL enc) fun l => some l.reverse := fun l z h => by
  cases h
  exact ⟨_, rfl, by show PyData.list (l.map enc).reverse = PyData.list _; rw [List.map_reverse], fun q e => by cases e; rfl⟩
theorem ou_sum : OpU sumD (eL nI) (some false) nI fun l => some l.sum := fun l z h => by cases h; exact ⟨_, sumD_n l, rfl, fun q e => by cases e; rfl⟩
theorem blsOf_n (xs : List Bool) : blsOf (xs.map PyData.bool) = some xs := by
  induction xs with
  | nil => rfl
  | cons x xs ih => show (blsOf (xs.map PyData.bool)).map (x :: ·) = _; rw [ih]; rfl
theorem ou_any : OpU anyD (eL PyData.bool) (some false) PyData.bool fun l => some (l.any id) := fun l z h => by
  cases h
  exact ⟨_, by show (blsOf (l.map PyData.bool)).map _ = _; rw [blsOf_n]; rfl, rfl, fun q e => by cases e; rfl⟩
theorem ou_all : OpU allD (eL PyData.bool) (some false) PyData.bool fun l => some (l.all id) := fun l z h => by
  cases h
  exact ⟨_, by show (blsOf (l.map PyData.bool)).map _ = _; rw [blsOf_n]; rfl, rfl, fun q e => by cases e; rfl⟩
theorem ou_abs : OpU absD nI (some false) nI fun x => some x := fun x z h => by
  cases h
  exact ⟨_, absD_i _, by rw [if_neg (by omega)]; rfl, fun q e => by cases e; rfl⟩
theorem ou_int : OpU intD nI (some false) nI fun x => some x := fun x z h => by cases h; exact ⟨_, intD_i _, rfl, fun q e => by cases e; rfl⟩
def reprO (enc : α → D) (x : α) : Option Str := if reprOk (enc x) = true then some (enc x).shown else none
theorem ou_repr {enc : α → D} : OpU reprD enc (some false) PyData.str (reprO enc) := fun x z h => by
  unfold reprO at h
  by_cases c : reprOk (enc x) = true
  · rw [if_pos c] at h
    cases h
    exact ⟨(false, .str (enc x).shown), by show (if reprOk (enc x) = true then some (false, PyData.str (enc x).shown) else none) = _; rw [if_pos c], rfl, fun q e => by cases e; rfl⟩
  · rw [if_neg c] at h; cases h
def bitsN (x : Nat) : Nat := Builtin.Int.intBits (x : Int)
theorem ou_bits : OpU bitsD nI (some false) nI fun x => some (bitsN x) := fun x z h => by cases h; exact ⟨_, rfl, rfl, fun q e => by cases e; rfl⟩
theorem tr_nat : ∀ x, truD (nI x) = some (x != 0) := fun x => by
  show some ((x : Int) != 0) = _
  congr 1
  cases x with
  | zero => rfl
  | succ x => simp [bne]; omega
theorem tr_bool : ∀ x, truD (PyData.bool x) = some x := fun _ => rfl
theorem tr_L {enc : α → D} : ∀ l, truD (eL enc l) = some (!l.isEmpty) := fun l => by cases l <;> rfl
theorem tr_T {enc : α → D} : ∀ l, truD (eT enc l) = some (!l.isEmpty) := fun l => by cases l <;> rfl
theorem ct_B {Γf : α → List Sl} : ∀ x fl en, CtP Γf x fl en → BdP Γf x fl en := fun x fl en h => ⟨.inr h.1, h.2⟩
def NN (po : α → Fl → SE → Prop) : α → Fl → SE → Prop := fun x fl en => fl ≠ .nx ∧ po x fl en
theorem nn_id {po : α → Fl → SE → Prop} : ∀ x fl en, NN po x fl en → fl ≠ .nx ∧ po x fl en := fun _ _ _ h => h
theorem rt_M {ko : Option Bool} {enc : α → D} {Γf : β → List Sl} : ∀ x fl en, RtP ko enc x fl en → MxP ko enc Γf (.inl x) fl en := fun _ _ _ h => h
theorem rt_MB {ko : Option Bool} {enc : α → D} {Γf : β → List Sl} : ∀ x fl en, RtP ko enc x fl en → MbP ko enc Γf (.inl x) fl en := fun _ _ _ h => h
theorem rt_Mn {ko : Option Bool} {enc : α → D} {Γf : β → List Sl} : ∀ x fl en, RtP ko enc x fl en → NN (MxP ko enc Γf) (.inl x) fl en := fun _ _ _ h => ⟨(rt_nnx _ _ _ h).1, h⟩
theorem rt_MBn {ko : Option Bool} {enc : α → D} {Γf : β → List Sl} : ∀ x fl en, RtP ko enc x fl en → NN (MbP ko enc Γf) (.inl x) fl en := fun _ _ _ h => ⟨(rt_nnx _ _ _ h).1, h⟩
theorem js_ctB {s : α} {Γf : α → List Sl} (h : Wk Γ (Γf s)) : JS 𝕄 Γ (M.ret .ct) (𝕄.ret s) (BdP Γf) := js_post (js_ct h) fun _ _ _ h => ⟨.inr h.1, h.2⟩
theorem js_ctBn {s : α} {Γf : α → List Sl} (h : Wk Γ (Γf s)) : JS 𝕄 Γ (M.ret .ct) (𝕄.ret s) (NN (BdP Γf)) := js_post (js_ct h) fun _ _ _ h => ⟨(fun e => by rw [h.1] at e; cases e), .inr h.1, h.2⟩
theorem js_ctMB {s : β} {Γf : β → List Sl} {ko : Option Bool} {enc : α → D} (h : Wk Γ (Γf s)) : JS 𝕄 Γ (M.ret .ct) (𝕄.ret (.inr s)) (MbP ko enc Γf) := fun en b Q g p w => ⟨.ct, .inr s, en, b, rfl, ⟨.inr rfl, h.go g⟩, 𝕄.rr p, 𝕄.wp_ret w⟩
theorem js_ctMBn {s : β} {Γf : β → List Sl} {ko : Option Bool} {enc : α → D} (h : Wk Γ (Γf s)) : JS 𝕄 Γ (M.ret .ct) (𝕄.ret (.inr s)) (NN (MbP ko enc Γf)) := fun en b Q g p w => ⟨.ct, .inr s, en, b, rfl, ⟨(fun e => by cases e), .inr rfl, h.go g⟩, 𝕄.rr p, 𝕄.wp_ret w⟩
theorem js_ctK {s : β} {Γf : β → List Sl} (h : Wk Γ (Γf s)) : JS 𝕄 Γ (M.ret .ct) (𝕄.ret (.inr s)) (BkP Γf) := fun en b Q g p w => ⟨.ct, .inr s, en, b, rfl, ⟨.inr rfl, h.go g⟩, 𝕄.rr p, 𝕄.wp_ret w⟩
theorem js_ctKn {s : β} {Γf : β → List Sl} (h : Wk Γ (Γf s)) : JS 𝕄 Γ (M.ret .ct) (𝕄.ret (.inr s)) (NN (BkP Γf)) := fun en b Q g p w => ⟨.ct, .inr s, en, b, rfl, ⟨(fun e => by cases e), .inr rfl, h.go g⟩, 𝕄.rr p, 𝕄.wp_ret w⟩
theorem js_brkn {s : β} {Γf : β → List Sl} (h : Wk Γ (Γf s)) : JS 𝕄 Γ (M.ret .brk) (𝕄.ret (.inl s)) (NN (BkP Γf)) := fun en b Q g p w => ⟨.brk, .inl s, en, b, rfl, ⟨(fun e => by cases e), rfl, h.go g⟩, 𝕄.rr p, 𝕄.wp_ret w⟩
/-! constants, negative places, and-not -/
theorem je_con {f : M ρ} {x : α} {r : ρ} {e : α → ρ → Prop} (hf : f = M.ret r) (h : e x r) : JE 𝕄 Γ f (𝕄.ret x) e := by
  rw [hf]
  exact je_ret h
theorem je_andNot {f g : M D} {t1 t2 : 𝕄.T Nat} (hf : JE 𝕄 Γ f t1 (eE nI)) (hg : JE 𝕄 Γ g t2 (eE nI)) : JE 𝕄 Γ (binD andD f (fz (unM (i1 Builtin.bitNot) g))) (𝕄.bind t1 fun x => 𝕄.bind t2 fun y => 𝕄.ret (x - (x &&& y))) (eE nI) :=
  je_bind hf fun x r hx => by
    cases hx
    have h2 : JE 𝕄 Γ (fz (unM (i1 Builtin.bitNot) g)) (𝕄.bind t2 fun y => 𝕄.lift (some y)) (eE fun y : Nat => .int (Builtin.bitNot (y : Int))) :=
      je_fz (jx_un (ko := some false) (fun y z h => by cases h; exact ⟨_, rfl, rfl, fun q e => by cases e; rfl⟩) hg)
    intro en b Q g0 p w
    obtain ⟨r, y, en1, b1, h1, hy, g1, r1, w1⟩ := hg en b _ g0 p (𝕄.wp_bind w)
    cases hy
    refine ⟨nI (x - (x &&& y)), x - (x &&& y), en1, b1, ?_, rfl, g1, r1, 𝕄.wp_ret w1⟩
    have e1 : fz (unM (i1 Builtin.bitNot) g) en b = .ok (.int (Builtin.bitNot (y : Int))) en1 b1 := fz_ok (r := (false, .int (Builtin.bitNot (y : Int)))) (un_ok h1 rfl)
    rw [bind_ok e1]
    have e2 : andD (nI x) (.int (Builtin.bitNot (y : Int))) = some (nI (x - (x &&& y))) := by
      show some (PyData.int (Builtin.bitAnd (x : Int) (Builtin.bitNot (y : Int)))) = _
      rw [bitAnd_not, bitAnd_n]
      have : x &&& y ≤ x := Nat.and_le_left
      unfold nI
      congr 2
      omega
    show opt (andD (nI x) (.int (Builtin.bitNot (y : Int)))) en1 b1 = _
    rw [e2]
    rfl
theorem ox_mulc (c : Nat) (hc : c < 2 ^ 64) : OpX mulX nI (fun _ : Unit => nI c) (some false) nI fun x _ => some (x * c) := fun x _ z h => by
  cases h
  exact ox_mul x c _ (if_pos (.inr hc))
theorem ox_mulcL (c : Nat) (hc : c < 2 ^ 64) : OpX mulX (fun _ : Unit => nI c) nI (some false) nI fun _ x => some (c * x) := fun _ x z h => by
  cases h
  exact ox_mul c x _ (if_pos (.inl hc))
theorem ob_shl1 : OpB shlD (fun _ : Unit => nI 1) nI nI fun _ n => if n ≤ 1000000 then some (2 ^ n) else none := fun _ n z h => by
  dsimp only at h
  by_cases c : n ≤ 1000000
  · rw [if_pos c] at h
    cases h
    refine ob_shl 1 n _ ?_
    unfold shlO
    rw [if_pos ⟨by decide, c⟩, Nat.one_mul]
  · rw [if_neg c] at h; cases h
def pow2O (n : Nat) : Option Nat := if n ≤ 1000000 then some (2 ^ n) else none
/-! parts of a pair or a triple -/
theorem ob_P0 {ea : α → D} {eb : β → D} : OpB ixD (eP ea eb) (fun _ : Unit => .int 0) ea fun p _ => some p.1 := fun p _ z h => by cases h; rfl
theorem ob_P1' {ea : α → D} {eb : β → D} : OpB ixD (eP ea eb) (fun _ : Unit => .int 1) eb fun p _ => some p.2 := fun p _ z h => by cases h; rfl
theorem ob_Q0 {ea : α → D} {eb : β → D} : OpB ixD (eQ ea eb) (fun _ : Unit => .int 0) ea fun p _ => some p.1 := fun p _ z h => by cases h; rfl
theorem ob_Q1 {ea : α → D} {eb : β → D} : OpB ixD (eQ ea eb) (fun _ : Unit => .int 1) eb fun p _ => some p.2 := fun p _ z h => by cases h; rfl
theorem ob_P30 {ea : α → D} {eb : β → D} {ec : γ → D} : OpB ixD (eP3 ea eb ec) (fun _ : Unit => .int 0) ea fun p _ => some p.1 := fun p _ z h => by cases h; rfl
theorem ob_P31 {ea : α → D} {eb : β → D} {ec : γ → D} : OpB ixD (eP3 ea eb ec) (fun _ : Unit => .int 1) eb fun p _ => some p.2.1 := fun p _ z h => by cases h; rfl
theorem ob_P32 {ea : α → D} {eb : β → D} {ec : γ → D} : OpB ixD (eP3 ea eb ec) (fun _ : Unit => .int 2) ec fun p _ => some p.2.2 := fun p _ z h => by cases h; rfl
theorem ob_Q30 {ea : α → D} {eb : β → D} {ec : γ → D} : OpB ixD (eQ3 ea eb ec) (fun _ : Unit => .int 0) ea fun p _ => some p.1 := fun p _ z h => by cases h; rfl
theorem ob_Q31 {ea : α → D} {eb : β → D} {ec : γ → D} : OpB ixD (eQ3 ea eb ec) (fun _ : Unit => .int 1) eb fun p _ => some p.2.1 := fun p _ z h => by cases h; rfl
theorem ob_Q32 {ea : α → D} {eb : β → D} {ec : γ → D} : OpB ixD (eQ3 ea eb ec) (fun _ : Unit => .int 2) ec fun p _ => some p.2.2 := fun p _ z h => by cases h; rfl
/-- [x] + [y, z] -/
theorem ox_Q12 {ea : α → D} {eb : β → D} {ec : γ → D} : OpX addX (eQ1 ea) (eQ eb ec) (some true) (eQ3 ea eb ec) fun x p => some (x, p) := fun x p z h => by cases h; exact ⟨_, rfl, rfl, fun q e => by cases e; rfl⟩
/-! slices -/
def cutN (l : List α) (lo hi : Option Int) : List α := (l.drop (HT.sIx l.length 0 lo)).take (HT.sIx l.length l.length hi - HT.sIx l.length 0 lo)
theorem cut_n {enc : α → D} (l : List α) (lo hi : Option Int) : cutD (l.map enc) lo hi = (cutN l lo hi).map enc := by
  unfold cutD cutN
  rw [List.length_map, ← List.map_drop, ← List.map_take]
def pI : Option Int → Option Int → Prop := fun x r => r = x
theorem jp_none : JE 𝕄 Γ (ptM none) (𝕄.ret none) pI := je_ret rfl
theorem jp_nat {f : M D} {t : 𝕄.T Nat} (h : JE 𝕄 Γ f t (eE nI)) : JE 𝕄 Γ (ptM (some f)) (𝕄.bind t fun n => 𝕄.ret (some (n : Int))) pI := by
  unfold ptM
  refine je_bind h fun n r hr => ?_
  cases hr
  exact je_ret rfl
theorem jp_int {f : M D} {t : 𝕄.T Int} (h : JE 𝕄 Γ f t (eE iI)) : JE 𝕄 Γ (ptM (some f)) (𝕄.bind t fun n => 𝕄.ret (some n)) pI := by
  unfold ptM
  refine je_bind h fun n r hr => ?_
  cases hr
  exact je_ret rfl
theorem jx_slL {f : M D} {lo hi : PM} {t : 𝕄.T (List α)} {enc : α → D} {tl th : 𝕄.T (Option Int)} (h : JE 𝕄 Γ f t (eE (eL enc))) (h1 : JE 𝕄 Γ (ptM lo) tl pI) (h2 : JE 𝕄 Γ (ptM hi) th pI) :
    JE 𝕄 Γ (slM f lo hi) (𝕄.bind t fun l => 𝕄.bind tl fun a => 𝕄.bind th fun b => 𝕄.ret (cutN l a b)) (eX (some true) (eL enc)) := by
  unfold slM
  refine je_bind h fun l r hr => je_bind h1 fun a r1 hr1 => je_bind h2 fun b r2 hr2 => ?_
  cases hr; cases hr1; cases hr2
  refine je_con (r := (true, .list (cutD (l.map enc) a b))) rfl ⟨?_, fun q e => by cases e; rfl⟩
  show PyData.list _ = PyData.list _
  rw [cut_n]
theorem jx_slT {f : M D} {lo hi : PM} {t : 𝕄.T (List α)} {enc : α → D} {tl th : 𝕄.T (Option Int)} (h : JE 𝕄 Γ f t (eE (eT enc))) (h1 : JE 𝕄 Γ (ptM lo) tl pI) (h2 : JE 𝕄 Γ (ptM hi) th pI) :
    JE 𝕄 Γ (slM f lo hi) (𝕄.bind t fun l => 𝕄.bind tl fun a => 𝕄.bind th fun b => 𝕄.ret (cutN l a b)) (eX (some false) (eT enc)) := by
  unfold slM
  refine je_bind h fun l r hr => je_bind h1 fun a r1 hr1 => je_bind h2 fun b r2 hr2 => ?_
  cases hr; cases hr1; cases hr2
  refine je_con (r := (false, .tuple (cutD (l.map enc) a b))) rfl ⟨?_, fun q e => by cases e; rfl⟩
  show PyData.tuple _ = PyData.tuple _
  rw [cut_n]
/-! == over data -/
structure Fa [DecidableEq α] (dp : Nat) (enc : α → D) : Prop where
  lay : ∀ x, PyData.canLay0 (enc x) = true
  dep : ∀ x, PyData.depth (enc x) ≤ dp
  eqv : ∀ x y, PyData.eqv (enc x) (enc y) = decide (x = y)
theorem Fa.shaped [DecidableEq α] {dp : Nat} {enc : α → D} (f : Fa dp enc) (h : dp ≤ 64) (x : α) : SeqAt.shaped (enc x) = true := by
  unfold SeqAt.shaped
  rw [f.lay, Bool.true_and, decide_eq_true_eq]
  exact Nat.le_trans (f.dep x) h
theorem fa_nat : Fa 0 nI where
  lay := fun _ => rfl
  dep := fun _ => Nat.le_refl _
  eqv := fun x y => by
    show PyData.eqv (.int (x : Int)) (.int (y : Int)) = _
    simp only [PyData.eqv]
    rw [show ((x : Int) == (y : Int)) = decide ((x : Int) = (y : Int)) from rfl]
    exact decide_eq_decide.mpr Int.ofNat_inj
theorem fa_bool : Fa 0 PyData.bool where
  lay := fun _ => rfl
  dep := fun _ => Nat.le_refl _
  eqv := fun x y => by cases x <;> cases y <;> rfl
theorem Fa.all [DecidableEq α] {dp : Nat} {enc : α → D} (f : Fa dp enc) : ∀ l : List α, PyData.canLayAll0 (l.map enc) = true ∧ PyData.depthAll (l.map enc) ≤ dp
  | [] => ⟨rfl, Nat.zero_le _⟩
  | x :: l => by
    obtain ⟨h1, h2⟩ := Fa.all f l
    refine ⟨by simp only [List.map_cons, PyData.canLayAll0, f.lay, h1, Bool.and_self], ?_⟩
    simp only [List.map_cons, PyData.depthAll]
    exact Nat.max_le.mpr ⟨f.dep x, h2⟩
theorem Fa.eqs [DecidableEq α] {dp : Nat} {enc : α → D} (f : Fa dp enc) : ∀ l m : List α, PyData.eqvAll (l.map enc) (m.map enc) = decide (l = m)
  | [], [] => by simp only [List.map_nil, PyData.eqvAll, decide_true]
  | [], _ :: _ => by simp [PyData.eqvAll]
  | _ :: _, [] => by simp [PyData.eqvAll]
  | x :: l, y :: m => by
    rw [List.map_cons, List.map_cons, PyData.eqvAll, f.eqv, Fa.eqs f l m, ← Bool.decide_and]
    exact decide_eq_decide.mpr (by rw [List.cons.injEq])
theorem fa_L [DecidableEq α] {dp : Nat} {enc : α → D} (f : Fa dp enc) : Fa (dp + 1) (eL enc) where
  lay := fun l => by unfold eL; simp only [PyData.canLay0]; exact (f.all l).1
  dep := fun l => by unfold eL; simp only [PyData.depth]; exact Nat.succ_le_succ (f.all l).2
  eqv := fun l m => by unfold eL; simp only [PyData.eqv]; exact f.eqs l m
theorem fa_T [DecidableEq α] {dp : Nat} {enc : α → D} (f : Fa dp enc) : Fa (dp + 1) (eT enc) where
  lay := fun l => by unfold eT; simp only [PyData.canLay0]; exact (f.all l).1
  dep := fun l => by unfold eT; simp only [PyData.depth]; exact Nat.succ_le_succ (f.all l).2
  eqv := fun l m => by unfold eT; simp only [PyData.eqv]; exact f.eqs l m
theorem fa_P [DecidableEq α] [DecidableEq β] {dp dq : Nat} {ea : α → D} {eb : β → D} (f : Fa dp ea) (g : Fa dq eb) : Fa (dp + dq + 1) (eP ea eb) where
  lay := fun p => by unfold eP; simp only [PyData.canLay0, PyData.canLayAll0, f.lay, g.lay, Bool.and_self]
  dep := fun p => by
    unfold eP
    simp only [PyData.depth, PyData.depthAll]
    have h1 := f.dep p.1
    have h2 := g.dep p.2
    omega
  eqv := fun p q => by
    unfold eP
    simp only [PyData.eqv, PyData.eqvAll]
    rw [f.eqv, g.eqv, Bool.and_true, ← Bool.decide_and]
    exact decide_eq_decide.mpr ⟨fun e => Prod.ext e.1 e.2, fun e => by rw [e]; exact ⟨rfl, rfl⟩⟩
theorem ob_eqF [DecidableEq α] {dp : Nat} {enc : α → D} (f : Fa dp enc) (h : dp ≤ 64) (hs : ∀ x i, enc x ≠ .str i) : OpB eqD enc enc PyData.bool fun x y => some (decide (x = y)) := fun x y z e => by
  cases e
  rcases eqD_cases (enc x) (enc y) with ⟨i, j, h1, _⟩ | ⟨h1, _⟩
  · exact absurd h1 (hs x i)
  · rw [h1, f.shaped h, f.shaped h, f.eqv]
    rfl
theorem ob_neF [DecidableEq α] {dp : Nat} {enc : α → D} (f : Fa dp enc) (h : dp ≤ 64) (hs : ∀ x i, enc x ≠ .str i) : OpB neD enc enc PyData.bool fun x y => some (!decide (x = y)) := fun x y z e => by
  cases e
  rcases eqD_cases (enc x) (enc y) with ⟨i, j, h1, _⟩ | ⟨_, h1⟩
  · exact absurd h1 (hs x i)
  · rw [h1, f.shaped h, f.shaped h, f.eqv]
    rfl
theorem lay_empty {dp : Nat} [DecidableEq α] {enc : α → D} (f : Fa dp enc) (h : dp + 1 ≤ 64) : OpB eqD (eL enc) (fun _ : Unit => .list []) PyData.bool fun l _ => some l.isEmpty := fun l _ z e => by
  cases e
  have := ob_eqF (fa_L f) h (fun x i => by unfold eL; exact fun e => by cases e) l [] _ rfl
  refine this.trans ?_
  cases l <;> rfl
theorem lay_nempty {dp : Nat} [DecidableEq α] {enc : α → D} (f : Fa dp enc) (h : dp + 1 ≤ 64) : OpB neD (eL enc) (fun _ : Unit => .list []) PyData.bool fun l _ => some (!l.isEmpty) := fun l _ z e => by
  cases e
  have := ob_neF (fa_L f) h (fun x i => by unfold eL; exact fun e => by cases e) l [] _ rfl
  refine this.trans ?_
  cases l <;> rfl
theorem seq_nx {f : M Fl} : seqM f (M.ret .nx) = f := by
  funext en b
  unfold seqM M.bind
  cases f en b with
  | stuck => rfl
  | exc x e b => rfl
  | ok fl e b => cases fl <;> rfl
theorem js_unseq {f : M Fl} {t : 𝕄.T α} {po : α → Fl → SE → Prop} (h : JS 𝕄 Γ (seqM f (M.ret .nx)) t po) : JS 𝕄 Γ f t po := by
  rw [seq_nx] at h
  exact h
theorem js_never {po : α → Fl → SE → Prop} : JS 𝕄 Γ stk (𝕄.lift none) po := fun en b Q g p w => by
  obtain ⟨x, h, _⟩ := 𝕄.wp_lift w
  cases h
def eBag (_ : Unit) : D := bagD
theorem jx_min {f g : M D} {t1 t2 : 𝕄.T Nat} (hf : JE 𝕄 Γ f t1 (eE nI)) (hg : JE 𝕄 Γ g t2 (eE nI)) : JE 𝕄 Γ (argM (mm2 min2) (consM f (consM g (M.ret [])))) (𝕄.bind t1 fun x => 𝕄.bind t2 fun y => 𝕄.ret (min x y)) (eX (some false) nI) :=
  je_arg (jl_cons hf fun x => jl_cons hg fun y => jl_nil (by
    show JE 𝕄 Γ (opt (mm2 min2 [nI x, nI y])) _ _
    rw [min_n]
    exact je_ret ⟨rfl, fun q e => by cases e; rfl⟩))
theorem jx_max {f g : M D} {t1 t2 : 𝕄.T Nat} (hf : JE 𝕄 Γ f t1 (eE nI)) (hg : JE 𝕄 Γ g t2 (eE nI)) : JE 𝕄 Γ (argM (mm2 max2) (consM f (consM g (M.ret [])))) (𝕄.bind t1 fun x => 𝕄.bind t2 fun y => 𝕄.ret (max x y)) (eX (some false) nI) :=
  je_arg (jl_cons hf fun x => jl_cons hg fun y => jl_nil (by
    show JE 𝕄 Γ (opt (mm2 max2 [nI x, nI y])) _ _
    rw [max_n]
    exact je_ret ⟨rfl, fun q e => by cases e; rfl⟩))
end PL
/-! rules for typed readings -/
namespace PL
open PySem PySem.Spec PyProof.Rows L2
variable {α β γ σ : Type}
def drawW (k : Nat) : Wp Nat := fun Q => (0 < k ∧ k < 2 ^ 64) ∧ ∀ r, r < k → Q r
/-! plain functions -/
theorem sz_ok {l : List α} (h : l.length ≤ 2 ^ 20) : szO l = some l := if_pos h
theorem rg_ok {n : Nat} (h : n ≤ 2 ^ 20) : rgO n = some (List.range n) := if_pos h
theorem rg2_ok' {m n : Nat} (h : m ≤ 2 ^ 20 ∧ n ≤ 2 ^ 20) : rg2O m n = some ((List.range (n - m)).map (m + ·)) := if_pos h
theorem pow2_ok {n : Nat} (h : n ≤ 1000000) : pow2O n = some (2 ^ n) := if_pos h
theorem sub_ok {x y : Nat} (h : y ≤ x) : subO x y = some (x - y) := if_pos h
theorem push_ok' {l : List α} {x : α} (h : l.length < 2 ^ 20) : pushO l x = some (l ++ [x]) := if_pos h
theorem cat_ok {l m : List α} (h : l.length + m.length ≤ 2 ^ 20) : catO l m = some (l ++ m) := if_pos h
theorem set_ok {l : List α} {k : Nat} {x : α} (h : k < l.length) : setO l k x = some (l.set k x) := if_pos h
theorem ix_ok {l : List α} {k : Nat} (h : k < l.length) : ixO l k = some l[k] := List.getElem?_eq_getElem h
theorem ix_getD {l : List α} {k : Nat} {d : α} (h : k < l.length) : ixO l k = some (l.getD k d) := by
  rw [List.getD_eq_getElem?_getD, List.getElem?_eq_getElem h]
  exact List.getElem?_eq_getElem h
theorem ob_some (x : α) (f : α → Option β) : Option.bind (some x) f = f x := rfl
theorem comp_o {tc : α → Option Bool} {te : α → Option β} (q : α → Bool) (g : α → β) : ∀ {l : List α}, (∀ x ∈ l, tc x = some (q x)) → (∀ x ∈ l, q x = true → te x = some (g x)) → compT oM tc te l = some ((l.filter q).map g)
  | [], _, _ => rfl
  | x :: l, h1, h2 => by
    have ih := comp_o q g (l := l) (fun y hy => h1 y (List.mem_cons_of_mem _ hy)) (fun y hy => h2 y (List.mem_cons_of_mem _ hy))
    show Option.bind (tc x) (fun k => if k then Option.bind (te x) fun y => Option.bind (compT oM tc te l) fun ys => some (y :: ys) else compT oM tc te l) = _
    rw [h1 x (List.mem_cons_self ..), ob_some, ih, List.filter_cons]
    cases hq : q x with
    | true => rw [if_pos rfl, if_pos rfl, h2 x (List.mem_cons_self ..) hq]; rfl
    | false => rw [if_neg Bool.false_ne_true, if_neg Bool.false_ne_true]
theorem comp_m {te : α → Option β} (g : α → β) {l : List α} (h : ∀ x ∈ l, te x = some (g x)) : compT oM (fun _ => some true) te l = some (l.map g) := by
  rw [comp_o (fun _ => true) g (fun _ _ => rfl) (fun x hx _ => h x hx), List.filter_eq_self.mpr (fun _ _ => rfl)]
theorem comp_f {tc : α → Option Bool} (q : α → Bool) {l : List α} (h : ∀ x ∈ l, tc x = some (q x)) : compT oM tc (fun x => some x) l = some (l.filter q) := by
  rw [comp_o q (fun x => x) h (fun _ _ _ => rfl), List.map_id']
theorem fold_o {u : σ → α → Option σ} (f : σ → α → σ) (I : List α → σ → Prop) (h : ∀ x l s, I (x :: l) s → u s x = some (f s x) ∧ I l (f s x)) : ∀ (l : List α) (s : σ), I l s → foldT oM u l s = some (l.foldl f s) ∧ I [] (l.foldl f s)
  | [], s, i => ⟨rfl, i⟩
  | x :: l, s, i => by
    obtain ⟨h1, h2⟩ := h x l s i
    show Option.bind (u s x) (fun s' => foldT oM u l s') = _ ∧ _
    rw [h1]
    exact fold_o f I h l _ h2
theorem fold_p {u : σ → α → Option σ} (f : σ → α → σ) {l : List α} (h : ∀ s, ∀ x ∈ l, u s x = some (f s x)) (s : σ) : foldT oM u l s = some (l.foldl f s) := by
  induction l generalizing s with
  | nil => rfl
  | cons x l ih =>
    show Option.bind (u s x) (fun s' => foldT oM u l s') = _
    rw [h s x (List.mem_cons_self ..)]
    exact ih (fun s y hy => h s y (List.mem_cons_of_mem _ hy)) _
/-- by an invariant alone -/
theorem fold_i {u : σ → α → Option σ} (I : List α → σ → Prop) (h : ∀ x l s, I (x :: l) s → ∃ s', u s x = some s' ∧ I l s') : ∀ (l : List α) (s : σ), I l s → ∃ s', foldT oM u l s = some s' ∧ I [] s'
  | [], s, i => ⟨s, rfl, i⟩
  | x :: l, s, i => by
    obtain ⟨s1, h1, h2⟩ := h x l s i
    obtain ⟨s2, h3, h4⟩ := fold_i I h l s1 h2
    refine ⟨s2, ?_, h4⟩
    show Option.bind (u s x) (fun s' => foldT oM u l s') = _
    rw [h1]
    exact h3
/-- a loop that returns at the first x with q -/
theorem foldR_find {u : Unit → α → Option (β ⊕ Unit)} (q : α → Bool) (g : α → β) : ∀ {l : List α}, (∀ x ∈ l, u () x = some (if q x then .inl (g x) else .inr ())) → foldR oM u l () = some (match l.find? q with | some x => .inl (g x) | none => .inr ())
  | [], _ => rfl
  | x :: l, h => by
    have ih := foldR_find q g (l := l) fun y hy => h y (List.mem_cons_of_mem _ hy)
    show Option.bind (u () x) (fun z => Sum.elim (fun r => some (.inl r)) (fun s' => foldR oM u l s') z) = _
    rw [h x (List.mem_cons_self ..), ob_some, List.find?_cons]
    cases hq : q x with
    | true => rfl
    | false => exact ih
/-- a loop that never returns -/
theorem foldR_no {u : σ → α → Option (β ⊕ σ)} (I : List α → σ → Prop) (h : ∀ x l s, I (x :: l) s → ∃ s', u s x = some (.inr s') ∧ I l s') : ∀ (l : List α) (s : σ), I l s → ∃ s', foldR oM u l s = some (.inr s') ∧ I [] s'
  | [], s, i => ⟨s, rfl, i⟩
  | x :: l, s, i => by
    obtain ⟨s1, h1, h2⟩ := h x l s i
    obtain ⟨s2, h3, h4⟩ := foldR_no I h l s1 h2
    refine ⟨s2, ?_, h4⟩
    show Option.bind (u s x) (fun z => Sum.elim (fun r => some (.inl r)) (fun s' => foldR oM u l s') z) = _
    rw [h1]
    exact h3
theorem foldR_u {u : Unit → α → Option (β ⊕ Unit)} : ∀ {l : List α}, (∀ x ∈ l, u () x = some (.inr ())) → foldR oM u l () = some (.inr ())
  | [], _ => rfl
  | x :: l, h => by
    show Option.bind (u () x) (fun z => Sum.elim (fun r => some (.inl r)) (fun s' => foldR oM u l s') z) = _
    rw [h x (List.mem_cons_self ..)]
    exact foldR_u fun y hy => h y (List.mem_cons_of_mem _ hy)
theorem enumN_mem {l : List α} {p : Nat × α} (h : p ∈ enumN l) : p.2 ∈ l ∧ l[p.1]? = some p.2 := by
  unfold enumN at h
  obtain ⟨⟨x, i⟩, hm, rfl⟩ := List.mem_map.mp h
  obtain ⟨h1, h2⟩ := List.mem_zipIdx' hm
  exact ⟨h2 ▸ List.getElem_mem _, by
    show l[i]? = some x
    rw [List.getElem?_eq_getElem h1, ← h2]⟩
theorem enumN_get {l : List α} {k : Nat} : (enumN l)[k]? = l[k]?.map fun x => (k, x) := by
  unfold enumN
  rw [List.getElem?_map, List.getElem?_zipIdx]
  cases l[k]? <;> simp
theorem bools_of (M : Nat) : ∀ us : List Nat, (∀ y ∈ us, ∃ b : Bool, y = if b then M else 0) → ∃ bs : List Bool, bs.length = us.length ∧ us = bs.map fun b => if b then M else 0
  | [], _ => ⟨[], rfl, rfl⟩
  | y :: us, h => by
    obtain ⟨bs, e1, e2⟩ := bools_of M us fun z hz => h z (List.mem_cons_of_mem _ hz)
    obtain ⟨b, hb⟩ := h y (List.mem_cons_self ..)
    exact ⟨b :: bs, by simp [e1], by rw [hb]; show _ = (if b then M else 0) :: bs.map (fun b => if b then M else 0); rw [← e2]⟩
/-! there is an answer, and it has P -/
def Op (o : Option α) (P : α → Prop) : Prop := ∃ x, o = some x ∧ P x
theorem op_some {x : α} {P : α → Prop} (h : P x) : Op (some x) P := ⟨x, rfl, h⟩
theorem op_eq {o : Option α} {x : α} {P : α → Prop} (e : o = some x) (h : P x) : Op o P := ⟨x, e, h⟩
theorem op_bind {o : Option α} {k : α → Option β} {P : α → Prop} {P' : β → Prop} (h : Op o P) (hk : ∀ x, P x → Op (k x) P') : Op (Option.bind o k) P' := by
  obtain ⟨x, rfl, hx⟩ := h
  exact hk x hx
theorem op_be {o : Option α} {x : α} {k : α → Option β} {P' : β → Prop} (e : o = some x) (hk : Op (k x) P') : Op (Option.bind o k) P' := by
  subst e
  exact hk
theorem op_bs {x : α} {k : α → Option β} {P' : β → Prop} (hk : Op (k x) P') : Op (Option.bind (some x) k) P' := hk
theorem op_bb {o : Option α} {k : α → Option β} {h : β → Option γ} {P : γ → Prop} (hk : Op (Option.bind o fun x => Option.bind (k x) h) P) : Op (Option.bind (Option.bind o k) h) P := by
  cases o with
  | none => obtain ⟨x, e, _⟩ := hk; cases e
  | some x => exact hk
theorem op_mono {o : Option α} {P P' : α → Prop} (h : Op o P) (hp : ∀ x, P x → P' x) : Op o P' := by
  obtain ⟨x, e, hx⟩ := h
  exact ⟨x, e, hp x hx⟩
theorem op_ite {c : Prop} [Decidable c] {a b : Option α} {P : α → Prop} (ha : c → Op a P) (hb : ¬ c → Op b P) : Op (if c then a else b) P := by
  by_cases h : c
  · rw [if_pos h]; exact ha h
  · rw [if_neg h]; exact hb h
theorem op_bif {c : Prop} [Decidable c] {a b : Option α} {k : α → Option β} {P : β → Prop} (ha : c → Op (Option.bind a k) P) (hb : ¬ c → Op (Option.bind b k) P) : Op (Option.bind (if c then a else b) k) P := by
  by_cases h : c
  · rw [if_pos h]; exact ha h
  · rw [if_neg h]; exact hb h
theorem op_fold {u : σ → α → Option σ} (I : List α → σ → Prop) (h : ∀ x l s, I (x :: l) s → Op (u s x) (I l)) : ∀ (l : List α) (s : σ), I l s → Op (foldT oM u l s) (I [])
  | [], s, i => op_some i
  | x :: l, s, i => op_bind (h x l s i) fun s' i' => op_fold I h l s' i'
/-! all that draws allow -/
def Sp (w : Wp α) (P : α → Prop) : Prop := ∀ Q : α → Prop, (∀ y, P y → Q y) → w Q
theorem sp_ret {x : α} {P : α → Prop} (h : P x) : Sp (wM.ret x) P := fun Q k => k x h
theorem sp_bind {w : Wp α} {k : α → Wp β} {P : α → Prop} {P' : β → Prop} (h : Sp w P) (hk : ∀ y, P y → Sp (k y) P') : Sp (wM.bind w k) P' := fun Q q => h _ fun y hy => hk y hy Q q
theorem sp_mono {w : Wp α} {P P' : α → Prop} (h : Sp w P) (hp : ∀ y, P y → P' y) : Sp w P' := fun Q q => h Q fun y hy => q y (hp y hy)
theorem sp_lift {o : Option α} {x : α} {P : α → Prop} (h : o = some x) (hp : P x) : Sp (wM.lift o) P := fun Q q => by
  subst h
  exact q x hp
theorem sp_bl {o : Option α} {x : α} {k : α → Wp β} {P : β → Prop} (h : o = some x) (hk : Sp (k x) P) : Sp (wM.bind (wM.lift o) k) P := fun Q q => by
  subst h
  exact hk Q q
theorem sp_br {x : α} {k : α → Wp β} {P : β → Prop} (hk : Sp (k x) P) : Sp (wM.bind (wM.ret x) k) P := hk
theorem sp_bb {w : Wp α} {k : α → Wp β} {h : β → Wp γ} {P : γ → Prop} (hk : Sp (wM.bind w fun x => wM.bind (k x) h) P) : Sp (wM.bind (wM.bind w k) h) P := hk
theorem sp_draw {k : Nat} {P : Nat → Prop} (h1 : 0 < k) (h2 : k < 2 ^ 64) (h : ∀ r, r < k → P r) : Sp (drawW k) P := fun Q q => ⟨⟨h1, h2⟩, fun r hr => q r (h r hr)⟩
theorem sp_bd {n : Nat} {k : Nat → Wp β} {P : β → Prop} (h1 : 0 < n) (h2 : n < 2 ^ 64) (h : ∀ r, r < n → Sp (k r) P) : Sp (wM.bind (drawW n) k) P := sp_bind (sp_draw h1 h2 fun r hr => hr) h
theorem sp_ite {c : Prop} [Decidable c] {a b : Wp α} {P : α → Prop} (ha : c → Sp a P) (hb : ¬ c → Sp b P) : Sp (if c then a else b) P := by
  by_cases h : c
  · rw [if_pos h]; exact ha h
  · rw [if_neg h]; exact hb h
/-- an if ahead of more -/
theorem sp_bif {c : Prop} [Decidable c] {a b : Wp α} {k : α → Wp β} {P : β → Prop} (ha : c → Sp (wM.bind a k) P) (hb : ¬ c → Sp (wM.bind b k) P) : Sp (wM.bind (if c then a else b) k) P := by
  by_cases h : c
  · rw [if_pos h]; exact ha h
  · rw [if_neg h]; exact hb h
theorem sp_all {te : α → Wp β} {P : β → Prop} : ∀ {l : List α} {R : List β → Prop}, (∀ x ∈ l, Sp (te x) P) → (∀ ys, ys.length = l.length → (∀ y ∈ ys, P y) → R ys) → Sp (compT wM (fun _ => wM.ret true) te l) R
  | [], R, _, h => sp_ret (h [] rfl fun _ h => by cases h)
  | x :: l, R, h1, h => sp_br (sp_bind (h1 x (List.mem_cons_self ..)) fun y hy => sp_bind (P := fun ys => ys.length = l.length ∧ ∀ y ∈ ys, P y) (sp_all (fun z hz => h1 z (List.mem_cons_of_mem _ hz)) fun ys a b => ⟨a, b⟩) fun ys ⟨a, b⟩ => sp_ret (h (y :: ys) (congrArg (· + 1) a) fun z hz => by
    rcases List.mem_cons.mp hz with rfl | hz
    · exact hy
    · exact b z hz))
theorem sp_map {te : α → Wp β} (g : α → β) : ∀ {l : List α} {R : List β → Prop}, (∀ x ∈ l, Sp (te x) fun y => y = g x) → R (l.map g) → Sp (compT wM (fun _ => wM.ret true) te l) R
  | [], R, _, h => sp_ret h
  | x :: l, R, h1, h => sp_br (sp_bind (h1 x (List.mem_cons_self ..)) fun y hy => by
    cases hy
    exact sp_bind (P := fun ys => ys = l.map g) (sp_map g (fun z hz => h1 z (List.mem_cons_of_mem _ hz)) rfl) fun ys e => by
      cases e
      exact sp_ret h)
/-- with a test, all plain -/
theorem sp_fm {tc : α → Wp Bool} {te : α → Wp β} (q : α → Bool) (g : α → β) : ∀ {l : List α} {R : List β → Prop}, (∀ x ∈ l, Sp (tc x) fun y => y = q x) → (∀ x ∈ l, q x = true → Sp (te x) fun y => y = g x) → R ((l.filter q).map g) → Sp (compT wM tc te l) R
  | [], R, _, _, h => sp_ret h
  | x :: l, R, h0, h1, h => sp_bind (h0 x (List.mem_cons_self ..)) fun k hk => by
    cases hk
    rw [List.filter_cons] at h
    have t0 : ∀ z ∈ l, Sp (tc z) fun y => y = q z := fun z hz => h0 z (List.mem_cons_of_mem _ hz)
    have t1 : ∀ z ∈ l, q z = true → Sp (te z) fun y => y = g z := fun z hz => h1 z (List.mem_cons_of_mem _ hz)
    cases hq : q x with
    | true =>
      rw [hq] at h
      exact sp_bind (h1 x (List.mem_cons_self ..) hq) fun y hy => by
        cases hy
        exact sp_bind (P := fun ys => ys = (l.filter q).map g) (sp_fm q g t0 t1 rfl) fun ys e => by
          cases e
          exact sp_ret h
    | false =>
      rw [hq] at h
      exact sp_fm q g t0 t1 h
theorem sp_fold {u : σ → α → Wp σ} (I : List α → σ → Prop) (h : ∀ x l s, I (x :: l) s → Sp (u s x) (I l)) : ∀ (l : List α) (s : σ), I l s → Sp (foldT wM u l s) (I [])
  | [], s, i => sp_ret i
  | x :: l, s, i => sp_bind (h x l s i) fun s' i' => sp_fold I h l s' i'
theorem sp_rngA {u : σ → Nat → Wp σ} (J : Nat → σ → Prop) {n : Nat} (h : ∀ i s, i < n → J i s → Sp (u s i) (J (i + 1))) : ∀ (m k : Nat) (s : σ), k + m = n → J k s → Sp (foldT wM u (List.range' k m) s) (J n)
  | 0, k, s, e, j => by
    have : k = n := by omega
    subst this
    exact sp_ret j
  | m + 1, k, s, e, j => sp_bind (h k s (by omega) j) fun s' j' => sp_rngA J h m (k + 1) s' (by omega) j'
/-- for i in range(n) -/
theorem sp_rng {u : σ → Nat → Wp σ} (J : Nat → σ → Prop) {n : Nat} (h : ∀ i s, i < n → J i s → Sp (u s i) (J (i + 1))) {s : σ} (j : J 0 s) : Sp (foldT wM u (List.range n) s) (J n) := by
  rw [List.range_eq_range']
  exact sp_rngA J h n 0 s (by omega) j
theorem fold_rngA {u : σ → Nat → Option σ} (J : Nat → σ → Prop) {n : Nat} (h : ∀ i s, i < n → J i s → ∃ s', u s i = some s' ∧ J (i + 1) s') : ∀ (m k : Nat) (s : σ), k + m = n → J k s → ∃ s', foldT oM u (List.range' k m) s = some s' ∧ J n s'
  | 0, k, s, e, j => by
    have : k = n := by omega
    subst this
    exact ⟨s, rfl, j⟩
  | m + 1, k, s, e, j => by
    obtain ⟨s1, h1, j1⟩ := h k s (by omega) j
    obtain ⟨s2, h2, j2⟩ := fold_rngA J h m (k + 1) s1 (by omega) j1
    refine ⟨s2, ?_, j2⟩
    show Option.bind (u s k) (fun s' => foldT oM u (List.range' (k + 1) m) s') = _
    rw [h1]
    exact h2
theorem fold_rng {u : σ → Nat → Option σ} (J : Nat → σ → Prop) {n : Nat} (h : ∀ i s, i < n → J i s → ∃ s', u s i = some s' ∧ J (i + 1) s') {s : σ} (j : J 0 s) : ∃ s', foldT oM u (List.range n) s = some s' ∧ J n s' := by
  rw [List.range_eq_range']
  exact fold_rngA J h n 0 s (by omega) j
theorem op_rng {u : σ → Nat → Option σ} (J : Nat → σ → Prop) {n : Nat} (h : ∀ i s, i < n → J i s → Op (u s i) (J (i + 1))) {s : σ} (j : J 0 s) : Op (foldT oM u (List.range n) s) (J n) := fold_rng J h j
theorem zip_getD {α : Type} {β : Type} {xs : List α} {ys : List β} {d : α} {e : β} (h : ys.length = xs.length) : List.zip xs ys = (List.range xs.length).map fun v => (xs.getD v d, ys.getD v e) := by
  apply List.ext_getElem
  · rw [List.length_zip, List.length_map, List.length_range]
    omega
  · intro j h1 h2
    rw [List.length_zip] at h1
    rw [List.getElem_zip, List.getElem_map, List.getElem_range, List.getD_eq_getElem?_getD, List.getD_eq_getElem?_getD, List.getElem?_eq_getElem (by omega), List.getElem?_eq_getElem (by omega)]
    rfl
theorem sp_cup {te : α → β} {l : List α} {k : List β → Wp γ} {P : γ → Prop} (h : Sp (k (l.map te)) P) : Sp (wM.bind (compT wM (fun _ => wM.ret true) (fun x => wM.ret (te x)) l) k) P := sp_bind (sp_map te (R := fun ys => ys = l.map te) (fun x _ => sp_ret rfl) rfl) fun ys e => by
  cases e
  exact h
theorem sp_foldR {u : σ → α → Wp (β ⊕ σ)} (I : List α → σ → Prop) (h : ∀ x l s, I (x :: l) s → Sp (u s x) (fun z => ∃ s', z = .inr s' ∧ I l s')) : ∀ (l : List α) (s : σ), I l s → Sp (foldR wM u l s) (fun z => ∃ s', z = .inr s' ∧ I [] s')
  | [], s, i => sp_ret ⟨s, rfl, i⟩
  | x :: l, s, i => sp_bind (h x l s i) fun z ⟨s', e, i'⟩ => by
    cases e
    exact sp_foldR I h l s' i'
/-- a loop that never returns; what follows it -/
theorem sp_bfoldR {u : σ → α → Wp (β ⊕ σ)} {k : β ⊕ σ → Wp γ} {P : γ → Prop} (I : List α → σ → Prop) {l : List α} {s : σ} (i : I l s) (h : ∀ x l s, I (x :: l) s → Sp (u s x) (fun z => ∃ s', z = .inr s' ∧ I l s')) (hk : ∀ s', I [] s' → Sp (k (.inr s')) P) : Sp (wM.bind (foldR wM u l s) k) P := sp_bind (sp_foldR I h l s i) fun z ⟨s', e, i'⟩ => by
  cases e
  exact hk s' i'
/-! repr -/
/-- shown in at most n signs, at a depth of at most k -/
structure RO (k n : Nat) (d : D) : Prop where
  sh : d.showable = true
  lay : d.canLay0 = true
  dep : d.depth ≤ k
  len : d.shown.length ≤ n
theorem RO.ok {k n : Nat} {d : D} (h : RO k n d) (hk : k ≤ 64) (hn : n ≤ 2 ^ 24) : reprOk d = true := by
  unfold reprOk
  rw [h.sh, h.lay, Bool.true_and, Bool.true_and, Bool.and_eq_true, decide_eq_true_eq, decide_eq_true_eq]
  exact ⟨Nat.le_trans h.dep hk, Nat.le_trans h.len hn⟩
theorem repr_ok {k n : Nat} {enc : α → D} {x : α} (h : RO k n (enc x)) (hk : k ≤ 64) (hn : n ≤ 2 ^ 24) : reprO enc x = some (enc x).shown := if_pos (h.ok hk hn)
theorem RO.mono {k n k' n' : Nat} {d : D} (h : RO k n d) (hk : k ≤ k') (hn : n ≤ n') : RO k' n' d := ⟨h.sh, h.lay, Nat.le_trans h.dep hk, Nat.le_trans h.len hn⟩
theorem rn_none {k n : Nat} (hn : 4 ≤ n) : RO k n .none := ⟨by simp only [PyData.showable], by simp only [PyData.canLay0], by simp only [PyData.depth]; exact Nat.zero_le _, by simp only [PyData.shown]; exact Nat.le_trans (show (("None" : String) : Str).length ≤ 4 by decide) hn⟩
theorem ro_bool {k n : Nat} (b : Bool) (hn : 5 ≤ n) : RO k n (.bool b) := ⟨by simp only [PyData.showable], by simp only [PyData.canLay0], by simp only [PyData.depth]; exact Nat.zero_le _, by
  simp only [PyData.shown]
  cases b
  · exact Nat.le_trans (show (("False" : String) : Str).length ≤ 5 by decide) hn
  · exact Nat.le_trans (show (("True" : String) : Str).length ≤ 5 by decide) hn⟩
theorem ro_nat {k n : Nat} (x : Nat) (h : x < 2 ^ 64) (hn : 30 ≤ n) : RO k n (nI x) := ⟨by
    unfold nI
    simp only [PyData.showable, Int.natAbs_natCast, decide_eq_true_eq]
    rcases Nat.eq_zero_or_pos x with rfl | h0
    · decide
    · have := (Nat.log2_lt (by omega)).mpr h
      omega, by unfold nI; simp only [PyData.canLay0], by unfold nI; simp only [PyData.depth]; exact Nat.zero_le _, by
    unfold nI
    simp only [PyData.shown]
    rw [Str.ofString_eq_toList]
    show ((toString (x : Int)).toList.map Char.toNat).toArray.size ≤ n
    rw [List.size_toArray, List.length_map, String.length_toList]
    have := int_text_length_le10 (a := (x : Int)) (k := 20) (by decide) (by rw [Int.natAbs_natCast]; omega)
    omega⟩
theorem txt_len : ∀ (ts : List Str) (k : Nat) (acc : Str), (textFrom k acc ts).length ≤ acc.length + piled ts
  | [], k, acc => Nat.le_add_right _ _
  | t :: ts, k, acc => by
    have ih := txt_len ts (k + 1) (acc ++ (if k > 0 then ", " else "" : String) ++ t)
    show (textFrom (k + 1) (acc ++ (if k > 0 then ", " else "" : String) ++ t) ts).length ≤ _
    rw [strLen_append, strLen_append] at ih
    have e : (((if k > 0 then ", " else "" : String)) : Str).length ≤ 2 := by split <;> decide
    have hp : piled (t :: ts) = t.length + 2 + piled ts := by simp [piled]
    omega
theorem lst_len (ts : List Str) : (listText ts).length ≤ piled ts + 2 := by
  unfold listText
  rw [strLen_append]
  have h1 := txt_len ts 0 "["
  have h2 : ((("[" : String) : Str)).length = 1 := rfl
  have h3 : ((("]" : String) : Str)).length = 1 := rfl
  omega
theorem tup_len (ts : List Str) : (tupleText ts).length ≤ piled ts + 3 := by
  unfold tupleText
  rw [strLen_append, strLen_append]
  have e1 : ((("(" : String) : Str)).length = 1 := rfl
  have e3 : (((if ts.length == 1 then ",)" else ")" : String) : Str)).length ≤ 2 := by split <;> decide
  by_cases h : ts = []
  · subst h
    have : (Str.join ", " []).length = 0 := rfl
    omega
  · have := join_length_add ts h
    omega
theorem ro_all {k n : Nat} : ∀ ds : List D, (∀ d ∈ ds, RO k n d) → PyData.showableAll ds = true ∧ PyData.canLayAll0 ds = true ∧ PyData.depthAll ds ≤ k ∧ piled (PyData.shownAll ds) ≤ ds.length * (n + 2)
  | [], _ => ⟨by simp only [PyData.showableAll], by simp only [PyData.canLayAll0], by simp only [PyData.depthAll]; exact Nat.zero_le _, by simp [PyData.shownAll, piled]⟩
  | d :: ds, h => by
    obtain ⟨h1, h2, h3, h4⟩ := ro_all ds fun x hx => h x (List.mem_cons_of_mem _ hx)
    have hd := h d (List.mem_cons_self ..)
    refine ⟨by simp only [PyData.showableAll, hd.sh, h1, Bool.and_self], by simp only [PyData.canLayAll0, hd.lay, h2, Bool.and_self], by simp only [PyData.depthAll]; exact Nat.max_le.mpr ⟨hd.dep, h3⟩, ?_⟩
    have hp : piled (PyData.shownAll (d :: ds)) = d.shown.length + 2 + piled (PyData.shownAll ds) := by simp [PyData.shownAll, piled]
    have hl := hd.len
    rw [hp, List.length_cons, Nat.succ_mul]
    omega
theorem ro_list {k n m : Nat} {ds : List D} (h : ∀ d ∈ ds, RO k n d) (hm : ds.length * (n + 2) + 3 ≤ m) : RO (k + 1) m (.list ds) := by
  obtain ⟨h1, h2, h3, h4⟩ := ro_all ds h
  refine ⟨by simp only [PyData.showable]; exact h1, by simp only [PyData.canLay0]; exact h2, by simp only [PyData.depth]; omega, ?_⟩
  simp only [PyData.shown]
  have := lst_len (PyData.shownAll ds)
  omega
theorem ro_tup {k n m : Nat} {ds : List D} (h : ∀ d ∈ ds, RO k n d) (hm : ds.length * (n + 2) + 3 ≤ m) : RO (k + 1) m (.tuple ds) := by
  obtain ⟨h1, h2, h3, h4⟩ := ro_all ds h
  refine ⟨by simp only [PyData.showable]; exact h1, by simp only [PyData.canLay0]; exact h2, by simp only [PyData.depth]; omega, ?_⟩
  simp only [PyData.shown]
  have := tup_len (PyData.shownAll ds)
  omega
theorem ro_L {k n m c : Nat} {enc : α → D} {l : List α} (h : ∀ x ∈ l, RO k n (enc x)) (hl : l.length ≤ c) (hm : c * (n + 2) + 3 ≤ m) : RO (k + 1) m (eL enc l) := by
  refine ro_list (fun d hd => ?_) (Nat.le_trans (Nat.add_le_add_right (Nat.mul_le_mul_right _ (by rw [List.length_map]; exact hl)) 3) hm)
  obtain ⟨x, hx, rfl⟩ := List.mem_map.mp hd
  exact h x hx
theorem ro_T {k n m c : Nat} {enc : α → D} {l : List α} (h : ∀ x ∈ l, RO k n (enc x)) (hl : l.length ≤ c) (hm : c * (n + 2) + 3 ≤ m) : RO (k + 1) m (eT enc l) := by
  refine ro_tup (fun d hd => ?_) (Nat.le_trans (Nat.add_le_add_right (Nat.mul_le_mul_right _ (by rw [List.length_map]; exact hl)) 3) hm)
  obtain ⟨x, hx, rfl⟩ := List.mem_map.mp hd
  exact h x hx
theorem ro_P {k n m : Nat} {ea : α → D} {eb : β → D} {p : α × β} (h1 : RO k n (ea p.1)) (h2 : RO k n (eb p.2)) (hm : 2 * (n + 2) + 3 ≤ m) : RO (k + 1) m (eP ea eb p) := ro_tup (fun d hd => by
  rcases List.mem_cons.mp hd with rfl | hd
  · exact h1
  · rcases List.mem_cons.mp hd with rfl | hd
    · exact h2
    · cases hd) hm
theorem ro_Q {k n m : Nat} {ea : α → D} {eb : β → D} {p : α × β} (h1 : RO k n (ea p.1)) (h2 : RO k n (eb p.2)) (hm : 2 * (n + 2) + 3 ≤ m) : RO (k + 1) m (eQ ea eb p) := ro_list (fun d hd => by
  rcases List.mem_cons.mp hd with rfl | hd
  · exact h1
  · rcases List.mem_cons.mp hd with rfl | hd
    · exact h2
    · cases hd) hm
theorem ro_O {k n : Nat} {ea : α → D} {o : Option α} (hn : 4 ≤ n) (h : ∀ x, o = some x → RO k n (ea x)) : RO k n (eO ea o) := by
  cases o with
  | none => exact rn_none hn
  | some x => exact h x rfl
end PL
namespace Cw
open PySem PySem.Spec PyProof.Rows L2 PL
theorem onB {α : Type} (k : SE → Bg → Out α) (en : SE) (b : Bg) (h : b.scr = false) : onBag 0 k (some (false, bagD) :: en) b = k (some (false, bagD) :: en) b := onBag_at h rfl
theorem draw_ok {b : Bg} {k : Int} (g : Gd b) (hk : 0 < k) (hk2 : k.natAbs.log2 < 9000) : ∃ r b', f__law_draw [bagD, .int k] b = .ok (false, .int r) b' ∧ 0 ≤ r ∧ r < k ∧ Gd b' := by
  obtain ⟨e1, b1, h1, ⟨x1, rfl⟩, g1⟩ := while_rule (t := (PL.andM (bolM (binD eqD (bagCur 0) (M.ret (.int 0)))) (bagMore 0))) (f := (seqM (asgM 2 (fr (bagPop 0)))
    (bagSetCur 0 (fz (iteM (bolM (binD gtD (nm 2) (binD powD (M.ret (.int 10)) (M.ret (.int 9))))) (fr (nm 2)) (fr (M.ret (.int 0)))))))) (fun en b => (∃ x, en = [some (false, bagD), some (false, .int k), x, none]) ∧ Gd b) (fun en b => (∃ x, en = [some (false, bagD), some (false, .int k), x, none]) ∧ Gd b) (fun _ b => b.cells.length) (by
    rintro en b ⟨⟨x, rfl⟩, g⟩
    have hs := g.2
    by_cases c0 : b.cur = 0
    · cases hc : b.cells.isEmpty with
      | true =>
        refine .inl ⟨_, b, ?_, ⟨x, rfl⟩, g⟩
        simp only [M.bind, M.ret, PL.andM, PL.orM, PL.notM, bolM, binD, binM, unM, argM, consM, consR, tupM, lstM, fz, fr, opt, nm, pk, ixNm, iteM, truM, seqM, asgM, setR, dropM, retM, retN, ifM, asB_b, eqD_i, neD_i, subD_i, andD_i, orD_i, xorD_i, ltD_i, leD_i, gtD_i, geD_i, addX_i, intD_i, absD_i, List.getElem?_cons_succ, List.getElem?_cons_zero, List.set_cons_succ, List.set_cons_zero, List.length_cons, List.length_nil, Nat.reduceAdd, Nat.reduceLT, if_true, List.map, List.replicate, List.cons_append, List.nil_append, if_false_left, decide_true, decide_false, if_sz, if_szL, Nat.reduceLeDiff, bagCur, bagMore, onB _ _ _ hs, kCur, kMore, c0, hc, Bool.not_true]
      | false =>
        have hlen : 0 < b.cells.length := by
          cases hcc : b.cells with
          | nil => rw [hcc] at hc; cases hc
          | cons a l => simp
        have hpop : b.cells[b.cells.length - 1]? = some (b.cells[b.cells.length - 1]'(by omega)) := List.getElem?_eq_getElem (by omega)
        generalize hz : b.cells[b.cells.length - 1]'(by omega) = z at hpop
        have hpow : powD (.int 10) (.int 9) = some (.int (10 ^ 9)) := rfl
        have hd : b.cells.dropLast.length < b.cells.length := by rw [List.length_dropLast]; omega
        have g' : ∀ c : Int, Gd { cells := b.cells.dropLast, cur := c, mix := b.mix, scr := b.scr } := fun c => ⟨by show b.cells.dropLast.length ≤ 63; have := g.1; omega, hs⟩
        obtain ⟨c, hcv⟩ : ∃ c, z = c := ⟨z, rfl⟩
        have run : ∀ cc : Int, (decide ((10 : Int) ^ 9 < c) = true → cc = c) → (decide ((10 : Int) ^ 9 < c) = false → cc = 0) → (seqM (asgM 2 (fr (bagPop 0)))
    (bagSetCur 0 (fz (iteM (bolM (binD gtD (nm 2) (binD powD (M.ret (.int 10)) (M.ret (.int 9))))) (fr (nm 2)) (fr (M.ret (.int 0))))))) [some (false, bagD), some (false, .int k), x, none] b = .ok .nx [some (false, bagD), some (false, .int k), some (false, .int c), none] { cells := b.cells.dropLast, cur := cc, mix := b.mix, scr := b.scr } := fun cc h1 h2 => by
          have hb2 : ({ cells := b.cells.dropLast, cur := b.cur, mix := b.mix, scr := b.scr } : Bg).scr = false := hs
          refine (seq_ok (asg_ok (e' := [some (false, bagD), some (false, .int k), x, none]) (b' := { cells := b.cells.dropLast, cur := b.cur, mix := b.mix, scr := b.scr }) (r := (false, .int c)) ?_ (by simp))).trans ?_
          · simp only [M.bind, M.ret, PL.andM, PL.orM, PL.notM, bolM, binD, binM, unM, argM, consM, consR, tupM, lstM, fz, fr, opt, nm, pk, ixNm, iteM, truM, seqM, asgM, setR, dropM, retM, retN, ifM, asB_b, eqD_i, neD_i, subD_i, andD_i, orD_i, xorD_i, ltD_i, leD_i, gtD_i, geD_i, addX_i, intD_i, absD_i, List.getElem?_cons_succ, List.getElem?_cons_zero, List.set_cons_succ, List.set_cons_zero, List.length_cons, List.length_nil, Nat.reduceAdd, Nat.reduceLT, if_true, List.map, List.replicate, List.cons_append, List.nil_append, if_false_left, decide_true, decide_false, if_sz, if_szL, Nat.reduceLeDiff, onB _ _ _ hs, bagPop, kPop, hpop, hcv]
          · cases hd : decide ((10 : Int) ^ 9 < c) with
            | true =>
              simp only [M.bind, M.ret, PL.andM, PL.orM, PL.notM, bolM, binD, binM, unM, argM, consM, consR, tupM, lstM, fz, fr, opt, nm, pk, ixNm, iteM, truM, seqM, asgM, setR, dropM, retM, retN, ifM, asB_b, eqD_i, neD_i, subD_i, andD_i, orD_i, xorD_i, ltD_i, leD_i, gtD_i, geD_i, addX_i, intD_i, absD_i, List.getElem?_cons_succ, List.getElem?_cons_zero, List.set_cons_succ, List.set_cons_zero, List.length_cons, List.length_nil, Nat.reduceAdd, Nat.reduceLT, if_true, List.map, List.replicate, List.cons_append, List.nil_append, if_false_left, decide_true, decide_false, if_sz, if_szL, Nat.reduceLeDiff, onB _ _ _ hb2, bagSetCur, hpow, kSetCur, hd]
              rw [h1 hd]
            | false =>
              simp only [M.bind, M.ret, PL.andM, PL.orM, PL.notM, bolM, binD, binM, unM, argM, consM, consR, tupM, lstM, fz, fr, opt, nm, pk, ixNm, iteM, truM, seqM, asgM, setR, dropM, retM, retN, ifM, asB_b, eqD_i, neD_i, subD_i, andD_i, orD_i, xorD_i, ltD_i, leD_i, gtD_i, geD_i, addX_i, intD_i, absD_i, List.getElem?_cons_succ, List.getElem?_cons_zero, List.set_cons_succ, List.set_cons_zero, List.length_cons, List.length_nil, Nat.reduceAdd, Nat.reduceLT, if_true, List.map, List.replicate, List.cons_append, List.nil_append, if_false_left, decide_true, decide_false, if_sz, if_szL, Nat.reduceLeDiff, onB _ _ _ hb2, bagSetCur, hpow, kSetCur, hd]
              rw [h2 hd]
        refine .inr ⟨_, b, _, _, ?_, run (if decide ((10 : Int) ^ 9 < c) = true then c else 0) (fun h => if_pos h) (fun h => if_neg (by rw [h]; decide)), ⟨⟨_, rfl⟩, g' _⟩, hd⟩
        simp only [M.bind, M.ret, PL.andM, PL.orM, PL.notM, bolM, binD, binM, unM, argM, consM, consR, tupM, lstM, fz, fr, opt, nm, pk, ixNm, iteM, truM, seqM, asgM, setR, dropM, retM, retN, ifM, asB_b, eqD_i, neD_i, subD_i, andD_i, orD_i, xorD_i, ltD_i, leD_i, gtD_i, geD_i, addX_i, intD_i, absD_i, List.getElem?_cons_succ, List.getElem?_cons_zero, List.set_cons_succ, List.set_cons_zero, List.length_cons, List.length_nil, Nat.reduceAdd, Nat.reduceLT, if_true, List.map, List.replicate, List.cons_append, List.nil_append, if_false_left, decide_true, decide_false, if_sz, if_szL, Nat.reduceLeDiff, bagCur, bagMore, onB _ _ _ hs, kCur, kMore, c0, hc, Bool.not_false]
    · refine .inl ⟨_, b, ?_, ⟨x, rfl⟩, g⟩
      simp only [M.bind, M.ret, PL.andM, PL.orM, PL.notM, bolM, binD, binM, unM, argM, consM, consR, tupM, lstM, fz, fr, opt, nm, pk, ixNm, iteM, truM, seqM, asgM, setR, dropM, retM, retN, ifM, asB_b, eqD_i, neD_i, subD_i, andD_i, orD_i, xorD_i, ltD_i, leD_i, gtD_i, geD_i, addX_i, intD_i, absD_i, List.getElem?_cons_succ, List.getElem?_cons_zero, List.set_cons_succ, List.set_cons_zero, List.length_cons, List.length_nil, Nat.reduceAdd, Nat.reduceLT, if_true, List.map, List.replicate, List.cons_append, List.nil_append, if_false_left, decide_true, decide_false, if_sz, if_szL, Nat.reduceLeDiff, bagCur, bagMore, onB _ _ _ hs, kCur, kMore, c0]) 100 [some (false, bagD), some (false, .int k), none, none] b ⟨⟨_, rfl⟩, g⟩ (by have := g.1; omega)
  have hs := g1.2
  by_cases hc : 0 < b1.cur
  · refine ⟨b1.cur % k, { cells := b1.cells, cur := b1.cur / k, mix := b1.mix, scr := b1.scr }, fnM_ok (e' := [some (false, bagD), some (false, .int k), x1, none]) rfl ((seq_ok h1).trans (seq_rt ?_)), Int.emod_nonneg _ (by omega), Int.emod_lt_of_pos _ hk, g1⟩
    simp only [M.bind, M.ret, PL.andM, PL.orM, PL.notM, bolM, binD, binM, unM, argM, consM, consR, tupM, lstM, fz, fr, opt, nm, pk, ixNm, iteM, truM, seqM, asgM, setR, dropM, retM, retN, ifM, asB_b, eqD_i, neD_i, subD_i, andD_i, orD_i, xorD_i, ltD_i, leD_i, gtD_i, geD_i, addX_i, intD_i, absD_i, List.getElem?_cons_succ, List.getElem?_cons_zero, List.set_cons_succ, List.set_cons_zero, List.length_cons, List.length_nil, Nat.reduceAdd, Nat.reduceLT, if_true, List.map, List.replicate, List.cons_append, List.nil_append, if_false_left, decide_true, decide_false, if_sz, if_szL, Nat.reduceLeDiff, onB _ _ _ hs, bagCur, kCur, hc, modD_i hk, fdivD_i hk hk2, bagSetCur, kSetCur]
  · have g2 : ∀ m : Int, Gd { cells := b1.cells, cur := b1.cur, mix := m, scr := b1.scr } := fun m => g1
    have m1 : mulOk b1.mix 48271 = true := by unfold mulOk; simp
    generalize hmm : (b1.mix * 48271 + 11) % 2147483647 = mm
    have m2 : mulOk mm mm = true := by
      have h1 := Int.emod_nonneg (b1.mix * 48271 + 11) (show (2147483647 : Int) ≠ 0 by decide)
      have h2 := Int.emod_lt_of_pos (b1.mix * 48271 + 11) (show (0 : Int) < 2147483647 by decide)
      rw [hmm] at h1 h2
      unfold mulOk
      simp only [decide_eq_true_eq]
      left
      omega
    have hb2 : ({ cells := b1.cells, cur := b1.cur, mix := mm, scr := b1.scr } : Bg).scr = false := hs
    refine ⟨mm * mm % 2147483629 / 7 % k, { cells := b1.cells, cur := b1.cur, mix := mm, scr := b1.scr }, fnM_ok (e' := [some (false, bagD), some (false, .int k), x1, none]) rfl ((seq_ok h1).trans ((seq_ok (e' := [some (false, bagD), some (false, .int k), x1, none]) (b' := b1) ?_).trans ((seq_ok (e' := [some (false, bagD), some (false, .int k), x1, none]) (b' := { cells := b1.cells, cur := b1.cur, mix := mm, scr := b1.scr }) ?_).trans ?_))), Int.emod_nonneg _ (by omega), Int.emod_lt_of_pos _ hk, g1⟩
    · simp only [M.bind, M.ret, PL.andM, PL.orM, PL.notM, bolM, binD, binM, unM, argM, consM, consR, tupM, lstM, fz, fr, opt, nm, pk, ixNm, iteM, truM, seqM, asgM, setR, dropM, retM, retN, ifM, asB_b, eqD_i, neD_i, subD_i, andD_i, orD_i, xorD_i, ltD_i, leD_i, gtD_i, geD_i, addX_i, intD_i, absD_i, List.getElem?_cons_succ, List.getElem?_cons_zero, List.set_cons_succ, List.set_cons_zero, List.length_cons, List.length_nil, Nat.reduceAdd, Nat.reduceLT, if_true, List.map, List.replicate, List.cons_append, List.nil_append, if_false_left, decide_true, decide_false, if_sz, if_szL, Nat.reduceLeDiff, onB _ _ _ hs, bagCur, kCur, hc]
    · simp only [M.bind, M.ret, PL.andM, PL.orM, PL.notM, bolM, binD, binM, unM, argM, consM, consR, tupM, lstM, fz, fr, opt, nm, pk, ixNm, iteM, truM, seqM, asgM, setR, dropM, retM, retN, ifM, asB_b, eqD_i, neD_i, subD_i, andD_i, orD_i, xorD_i, ltD_i, leD_i, gtD_i, geD_i, addX_i, intD_i, absD_i, List.getElem?_cons_succ, List.getElem?_cons_zero, List.set_cons_succ, List.set_cons_zero, List.length_cons, List.length_nil, Nat.reduceAdd, Nat.reduceLT, if_true, List.map, List.replicate, List.cons_append, List.nil_append, if_false_left, decide_true, decide_false, if_sz, if_szL, Nat.reduceLeDiff, onB _ _ _ hs, bagMix, kMix, mulX_i m1, modD_i (show (0 : Int) < 2147483647 by decide), bagSetMix, kSetMix, hmm]
    · simp only [M.bind, M.ret, PL.andM, PL.orM, PL.notM, bolM, binD, binM, unM, argM, consM, consR, tupM, lstM, fz, fr, opt, nm, pk, ixNm, iteM, truM, seqM, asgM, setR, dropM, retM, retN, ifM, asB_b, eqD_i, neD_i, subD_i, andD_i, orD_i, xorD_i, ltD_i, leD_i, gtD_i, geD_i, addX_i, intD_i, absD_i, List.getElem?_cons_succ, List.getElem?_cons_zero, List.set_cons_succ, List.set_cons_zero, List.length_cons, List.length_nil, Nat.reduceAdd, Nat.reduceLT, if_true, List.map, List.replicate, List.cons_append, List.nil_append, if_false_left, decide_true, decide_false, if_sz, if_szL, Nat.reduceLeDiff, onB _ _ _ hb2, bagMix, kMix, mulX_i m2, modD_i (show (0 : Int) < 2147483629 by decide), fdivD_i (show (0 : Int) < 7 by decide) (show (7 : Int).natAbs.log2 < 9000 by decide), modD_i hk]
theorem drawN_ok {b : Bg} {k : Nat} (g : Gd b) (hk : 0 < k) (hk2 : k < 2 ^ 64) : ∃ r b', f__law_draw [bagD, nI k] b = .ok (false, nI r) b' ∧ r < k ∧ Gd b' := by
  obtain ⟨r, b', h1, h2, h3, h4⟩ := draw_ok (k := (k : Int)) g (by omega) (by
    rw [Int.natAbs_natCast]
    have : k.log2 < 64 := (Nat.log2_lt (by omega)).mpr hk2
    omega)
  refine ⟨r.toNat, b', ?_, by omega, h4⟩
  have e : r = (r.toNat : Int) := by omega
  refine Eq.trans h1 ?_
  unfold nI
  rw [← e]
theorem r__law_draw (k : Nat) : JC wM f__law_draw [bagD, nI k] (drawW k) (some false) nI := fun b Q p w => by
  obtain ⟨⟨h1, h2⟩, h3⟩ := w
  obtain ⟨r, b', k1, k2, k3⟩ := drawN_ok p h1 h2
  exact ⟨_, r, b', k1, ⟨rfl, fun q e => by cases e; rfl⟩, k3, h3 r k2⟩
def bagE (f : Int → Int) : D → Option D
  | .int z => some (.int (f z))
  | _ => none
theorem bagE_map (f : Int → Int) : ∀ ns : List Int, (ns.map PyData.int).filterMap (bagE f) = (ns.map f).map PyData.int
  | [] => rfl
  | z :: ns => by
    rw [List.map_cons, List.filterMap_cons]
    show (PyData.int (f z)) :: _ = _
    rw [bagE_map f ns]
    rfl
theorem cut63 (ns : List Int) (h : ns.length ≤ 63) : PL.cutD (ns.map PyData.int) none (some 63) = ns.map PyData.int := by
  unfold PL.cutD
  have e1 : HT.sIx (ns.map PyData.int).length 0 none = 0 := rfl
  have e2 : ns.length ≤ HT.sIx (ns.map PyData.int).length (ns.map PyData.int).length (some 63) := by
    rw [List.length_map]
    unfold HT.sIx
    simp
    omega
  rw [e1, List.drop_zero]
  refine List.take_of_length_le ?_
  rw [List.length_map] at e2 ⊢
  exact e2
theorem hB : ∀ ns : List Int, ns.length ≤ 63 → ∃ (cs : List Int) (m : Int) (b : Bg), cs.length ≤ 63 ∧ f__law_bag [bagD] ⟨ns, 0, 0, true⟩ = .ok (true, .list [.list (cs.map PyData.int), .int 0, .int m]) b := by
  intro ns hl
  generalize hb : (⟨ns, 0, 0, true⟩ : Bg) = b
  have hcut : ∀ en : SE, en[0]? = some (some (false, bagD)) → (scrSl 0 63) en b = .ok (true, .list (ns.map PyData.int)) en b := fun en h0 => by
    subst hb
    have : (scrSl 0 63) en ⟨ns, 0, 0, true⟩ = .ok (true, .list (PL.cutD (ns.map PyData.int) none (some 63))) en ⟨ns, 0, 0, true⟩ := by
      unfold scrSl onScr
      rw [h0]
      rfl
    rw [this, cut63 ns hl]
  have hit : ∀ en : SE, en[0]? = some (some (false, bagD)) → (seqW (fz (scrSl 0 63))) en b = .ok (ns.map PyData.int) en b := fun en h0 => seqW_ok (fz_ok (hcut en h0)) rfl
  generalize hcs : (ns.map fun z : Int => ((if z < 0 then -z else z) % ((10 : Int) ^ 60))) = cs
  have hcl : cs.length ≤ 63 := by rw [← hcs]; simpa using hl
  have h1 : (lcM [1] (seqW (fz (scrSl 0 63))) (fun d => setR 1 (false, d)) (M.ret true) (binD modD (fz (unM intD (fz (unM absD (pk 1))))) (binD powD (M.ret (.int 10)) (M.ret (.int 60))))) [some (false, bagD), none, none, none] b = .ok (true, .list (cs.map PyData.int)) [some (false, bagD), none, none, none] b := by
    have := lcM_pure (vs := [1]) (g := fun d => setR 1 (false, d)) (t := M.ret true) (el := (binD modD (fz (unM intD (fz (unM absD (pk 1))))) (binD powD (M.ret (.int 10)) (M.ret (.int 60))))) (hit [some (false, bagD), none, none, none] rfl) (bagE fun z : Int => ((if z < 0 then -z else z) % ((10 : Int) ^ 60))) (fun d hd => by
      obtain ⟨z, _, rfl⟩ := List.mem_map.mp hd
      refine ⟨[some (false, bagD), some (false, .int z), none, none], rfl, [some (false, bagD), some (false, .int z), none, none], true, rfl, rfl, rfl, .inr ⟨rfl, .int ((if z < 0 then -z else z) % ((10 : Int) ^ 60)), [some (false, bagD), some (false, .int z), none, none], rfl, ?_, rfl⟩⟩
      simp only [M.bind, M.ret, PL.andM, PL.orM, PL.notM, bolM, binD, binM, unM, argM, consM, consR, tupM, lstM, fz, fr, opt, nm, pk, ixNm, iteM, truM, seqM, asgM, setR, dropM, retM, retN, ifM, asB_b, eqD_i, neD_i, subD_i, andD_i, orD_i, xorD_i, ltD_i, leD_i, gtD_i, geD_i, addX_i, intD_i, absD_i, List.getElem?_cons_succ, List.getElem?_cons_zero, List.set_cons_succ, List.set_cons_zero, List.length_cons, List.length_nil, Nat.reduceAdd, Nat.reduceLT, if_true, List.map, List.replicate, List.cons_append, List.nil_append, if_false_left, decide_true, decide_false, if_sz, if_szL, Nat.reduceLeDiff, absD_i, intD_i, (show powD (.int 10) (.int 60) = some (.int ((10 : Int) ^ 60)) from rfl), modD_i (show (0 : Int) < (10 : Int) ^ 60 by decide)]) (by rw [List.length_map]; exact Nat.le_trans hl (by decide))
    rw [this]
    rw [bagE_map, hcs]
    
    rfl
  have loop : ∀ (ws : List Int), ∀ en : SE, ∀ m : Int, (∃ x, en = [some (false, bagD), x, some (true, .list (cs.map PyData.int)), some (false, .int m)]) → ∃ e' b', forM' (fun d => setR 1 (false, d)) (asgM 3 (fr (binD modD (fz (binM addX (fz (binM addX (fz (binM mulX (nm 3) (M.ret (.int 48271)))) (binD modD (fz (unM intD (pk 1))) (M.ret (.int 2147483629))))) (M.ret (.int 7)))) (M.ret (.int 2147483647))))) (ws.map PyData.int) en b = .ok .nx e' b' ∧ ∃ x m', e' = [some (false, bagD), x, some (true, .list (cs.map PyData.int)), some (false, .int m')] := by
    intro ws en m ⟨x, hx⟩
    obtain ⟨e2, b2, h2, x1, m', h3, _⟩ := for_rule (g := fun d => setR 1 (false, d)) (f := (asgM 3 (fr (binD modD (fz (binM addX (fz (binM addX (fz (binM mulX (nm 3) (M.ret (.int 48271)))) (binD modD (fz (unM intD (pk 1))) (M.ret (.int 2147483629))))) (M.ret (.int 7)))) (M.ret (.int 2147483647))))))
      (fun ds en b' => ∃ x m, en = [some (false, bagD), x, some (true, .list (cs.map PyData.int)), some (false, .int m)] ∧ ∀ d ∈ ds, ∃ z, d = PyData.int z) (by
        rintro d ds en b' ⟨x, m, rfl, hd⟩
        obtain ⟨z, rfl⟩ := hd d (List.mem_cons_self ..)
        have m1 : mulOk m 48271 = true := by unfold mulOk; simp
        refine ⟨[some (false, bagD), some (false, .int z), some (true, .list (cs.map PyData.int)), some (false, .int m)], b', [some (false, bagD), some (false, .int z), some (true, .list (cs.map PyData.int)), some (false, .int ((m * 48271 + z % 2147483629 + 7) % 2147483647))], b', rfl, ?_, _, _, rfl, fun y hy => hd y (List.mem_cons_of_mem _ hy)⟩
        simp only [M.bind, M.ret, PL.andM, PL.orM, PL.notM, bolM, binD, binM, unM, argM, consM, consR, tupM, lstM, fz, fr, opt, nm, pk, ixNm, iteM, truM, seqM, asgM, setR, dropM, retM, retN, ifM, asB_b, eqD_i, neD_i, subD_i, andD_i, orD_i, xorD_i, ltD_i, leD_i, gtD_i, geD_i, addX_i, intD_i, absD_i, List.getElem?_cons_succ, List.getElem?_cons_zero, List.set_cons_succ, List.set_cons_zero, List.length_cons, List.length_nil, Nat.reduceAdd, Nat.reduceLT, if_true, List.map, List.replicate, List.cons_append, List.nil_append, if_false_left, decide_true, decide_false, if_sz, if_szL, Nat.reduceLeDiff, mulX_i m1, modD_i (show (0 : Int) < 2147483629 by decide), modD_i (show (0 : Int) < 2147483647 by decide)]) (ws.map PyData.int) en b ⟨x, m, hx, fun d hd => by
        obtain ⟨z, _, rfl⟩ := List.mem_map.mp hd
        exact ⟨z, rfl⟩⟩
    exact ⟨e2, b2, h2, x1, m', h3⟩
  obtain ⟨e2, b2, h2, x1, m, rfl⟩ := loop ns [some (false, bagD), none, some (true, .list (cs.map PyData.int)), some (false, .int (2468 + (cs.length : Nat)))] _ ⟨_, rfl⟩
  refine ⟨cs.reverse, m, b2, by rw [List.length_reverse]; exact hcl, fnM_ok (e' := [some (false, bagD), x1, some (true, .list (cs.map PyData.int)), some (false, .int m)]) rfl ?_⟩
  refine (seq_ok (asg_ok h1 (by simp))).trans ((seq_ok (e' := [some (false, bagD), none, some (true, .list (cs.map PyData.int)), some (false, .int (2468 + (cs.length : Nat)))]) (b' := b) ?_).trans ((seq_ok ((loop_ok (e' := [some (false, bagD), none, some (true, .list (cs.map PyData.int)), some (false, .int (2468 + (cs.length : Nat)))]) (b' := b) (ds := ns.map PyData.int) ?_).trans h2)).trans ?_))
  · simp only [M.bind, M.ret, PL.andM, PL.orM, PL.notM, bolM, binD, binM, unM, argM, consM, consR, tupM, lstM, fz, fr, opt, nm, pk, ixNm, iteM, truM, seqM, asgM, setR, dropM, retM, retN, ifM, asB_b, eqD_i, neD_i, subD_i, andD_i, orD_i, xorD_i, ltD_i, leD_i, gtD_i, geD_i, addX_i, intD_i, absD_i, List.getElem?_cons_succ, List.getElem?_cons_zero, List.set_cons_succ, List.set_cons_zero, List.length_cons, List.length_nil, Nat.reduceAdd, Nat.reduceLT, if_true, List.map, List.replicate, List.cons_append, List.nil_append, if_false_left, decide_true, decide_false, if_sz, if_szL, Nat.reduceLeDiff, lenD, List.length_map]
  · exact hit _ rfl
  · simp only [M.bind, M.ret, PL.andM, PL.orM, PL.notM, bolM, binD, binM, unM, argM, consM, consR, tupM, lstM, fz, fr, opt, nm, pk, ixNm, iteM, truM, seqM, asgM, setR, dropM, retM, retN, ifM, asB_b, eqD_i, neD_i, subD_i, andD_i, orD_i, xorD_i, ltD_i, leD_i, gtD_i, geD_i, addX_i, intD_i, absD_i, List.getElem?_cons_succ, List.getElem?_cons_zero, List.set_cons_succ, List.set_cons_zero, List.length_cons, List.length_nil, Nat.reduceAdd, Nat.reduceLT, if_true, List.map, List.replicate, List.cons_append, List.nil_append, if_false_left, decide_true, decide_false, if_sz, if_szL, Nat.reduceLeDiff, revD, lstOf, List.map_reverse]
end Cw
/-! typed rules for what PLs brings; records of more parts -/
namespace PL
open PySem PySem.Spec PyProof.Rows L2
variable {𝕄 : Mn} {Γ Γ' : List Sl} {ρ ρ' ρ2 α β γ σ : Type}
theorem ou_sum2 : OpU sum2D (eL nI) (some false) nI fun l => some l.sum := fun l z h => by cases h; exact ⟨(false, nI l.sum), sumD_n l, rfl, fun q e => by cases e; rfl⟩
theorem ou_sum2T : OpU sum2D (eT nI) (some false) nI fun l => some l.sum := fun l z h => by cases h; exact ⟨(false, nI l.sum), sumD_n l, rfl, fun q e => by cases e; rfl⟩
theorem je_nilN {neg : Bool} {i : Nat} {l : List α} {enc : α → D} [DecidableEq α] {dp : Nat} (f : Fa dp enc) (hd : dp + 1 ≤ 64) (h : (Γ[i]?.bind Sl.dat) = some (eL enc l)) : JE 𝕄 Γ (nilN neg i) (𝕄.ret (if neg then !l.isEmpty else l.isEmpty)) (eE PyData.bool) := fun en b Q g p w => by
  obtain ⟨k, hk⟩ := Sl.dat_get g h
  refine ⟨_, _, en, b, ?_, rfl, g, 𝕄.rr p, 𝕄.wp_ret w⟩
  unfold nilN
  rw [hk]
  show (if SeqAt.shaped (eL enc l) = true then Out.ok (PyData.bool (if neg = true then !(l.map enc).isEmpty else (l.map enc).isEmpty)) en b else .stuck) = _
  rw [if_pos ((fa_L f).shaped hd l)]
  cases l <;> rfl
theorem enumN_enc {enc : α → D} (l : List α) : enumL (l.map enc) = (enumN l).map (eP nI enc) := by
  unfold enumL enumN
  rw [List.zipIdx_map, List.map_map, List.map_map]
  apply List.map_congr_left
  rintro ⟨x, i⟩ _
  rfl
theorem je_enum2 {f : M D} {t : 𝕄.T (List α)} {enc : α → D} {el : List α → D} (he : (∀ l, el l = .list (l.map enc)) ∨ ∀ l, el l = .tuple (l.map enc)) (h : JE 𝕄 Γ f t (eE el)) : JE 𝕄 Γ (enW2 (consM f (M.ret []))) (𝕄.bind t fun l => 𝕄.ret (enumN l)) (eW (eP nI enc)) := by
  unfold enW2
  refine jl_cons h fun l => ?_
  rcases he with he | he
  · rw [he]
    exact je_ret (enumN_enc l)
  · rw [he]
    exact je_ret (enumN_enc l)
theorem JC.none {m : Fn} {ds : List D} {ko : Option Bool} {enc : α → D} : JC 𝕄 m ds (𝕄.lift (.none : Option α)) ko enc := fun b Q p w => by
  obtain ⟨x, h, _⟩ := 𝕄.wp_lift w
  cases h
theorem JC.ko {m : Fn} {ds : List D} {t : 𝕄.T α} {ko : Option Bool} {enc : α → D} (h : JC 𝕄 m ds t ko enc) : JC 𝕄 m ds t .none enc := fun b Q p w => by
  obtain ⟨r, x, b', h1, h2, h3, h4⟩ := h b Q p w
  exact ⟨r, x, b', h1, ⟨h2.1, fun q e => by cases e⟩, h3, h4⟩
theorem je_chain {o1 o2 : D → D → Option D} {ea : α → D} {eb : β → D} {ec : γ → D} {p1 : α → β → Option Bool} {p2 : β → γ → Option Bool} {f g h : M D} {t1 : 𝕄.T α} {t2 : 𝕄.T β} {t3 : 𝕄.T γ} (h1 : OpB o1 ea eb PyData.bool p1) (h2 : OpB o2 eb ec PyData.bool p2) (hf : JE 𝕄 Γ f t1 (eE ea)) (hg : JE 𝕄 Γ g t2 (eE eb)) (hh : JE 𝕄 Γ h t3 (eE ec)) :
    JE 𝕄 Γ (chainM o1 o2 f g h) (𝕄.bind t1 fun x => 𝕄.bind t2 fun y => 𝕄.bind (𝕄.lift (p1 x y)) fun k => if k then 𝕄.bind t3 fun z => 𝕄.lift (p2 y z) else 𝕄.ret false) (eE PyData.bool) :=
  je_bind hf fun x r hx => je_bind hg fun y r2 hy => je_bind (e := fun k r => r = PyData.bool k) (je_opt fun k hk => ⟨_, by cases hx; cases hy; exact h1 x y k hk, rfl⟩) fun k r3 hk => by
    cases hk
    cases hy
    cases k with
    | true => exact je_bind hh fun z r4 hz => je_opt fun w hw => ⟨_, by cases hz; exact h2 y z w hw, rfl⟩
    | false => exact je_ret rfl
theorem eqv_nat (x y : Nat) : PyData.eqv (nI x) (nI y) = decide (x = y) := fa_nat.eqv x y
theorem any_nat (x : Nat) : ∀ l : List Nat, ((l.map nI).any fun y => PyData.eqv y (nI x)) = decide (x ∈ l)
  | [] => rfl
  | y :: l => by
    rw [List.map_cons, List.any_cons, any_nat x l, eqv_nat, ← Bool.decide_or]
    exact decide_eq_decide.mpr ⟨fun h => List.mem_cons.mpr (h.imp Eq.symm id), fun h => (List.mem_cons.mp h).imp Eq.symm id⟩
theorem flat_nats : ∀ l : List Nat, (l.map nI).all flatD = true
  | [] => rfl
  | x :: l => by
    rw [List.map_cons, List.all_cons, flat_nats l]
    rfl
theorem ob_inL (neg : Bool) : OpB (inD neg) nI (eL nI) PyData.bool fun x l => some (if neg then !decide (x ∈ l) else decide (x ∈ l)) := fun x l z h => by
  cases h
  show (if (flatD (nI x) && (l.map nI).all flatD) = true then some (PyData.bool (if neg = true then !((l.map nI).any fun y => PyData.eqv y (nI x)) else (l.map nI).any fun y => PyData.eqv y (nI x))) else _) = _
  rw [flat_nats, if_pos (by rfl), any_nat]
theorem ob_inT (neg : Bool) : OpB (inD neg) nI (eT nI) PyData.bool fun x l => some (if neg then !decide (x ∈ l) else decide (x ∈ l)) := fun x l z h => by
  cases h
  show (if (flatD (nI x) && (l.map nI).all flatD) = true then some (PyData.bool (if neg = true then !((l.map nI).any fun y => PyData.eqv y (nI x)) else (l.map nI).any fun y => PyData.eqv y (nI x))) else none) = _
  rw [flat_nats, if_pos (by rfl), any_nat]
theorem ou_isi {enc : α → D} {t c : String} {k : Bool} (ht : ∀ x, tyD (enc x) = some t) (hk : isiB t c = k) : OpU (isiD c) enc (some false) PyData.bool fun _ => some k := fun x z h => by
  cases h
  exact ⟨(false, .bool (isiB t c)), by unfold isiD; rw [ht]; rfl, by rw [hk], fun q e => by cases e; rfl⟩
def insN (x : Nat) : List Nat → List Nat
  | [] => [x]
  | y :: l => if x ≤ y then x :: y :: l else y :: insN x l
def sortN (l : List Nat) : List Nat := l.foldr insN []
theorem insN_i (x : Nat) : ∀ l : List Nat, insI (x : Int) (l.map fun y : Nat => (y : Int)) = (insN x l).map fun y : Nat => (y : Int)
  | [] => rfl
  | y :: l => by
    rw [List.map_cons]
    unfold insI insN
    by_cases h : x ≤ y
    · rw [if_pos h, if_pos (by omega)]; rfl
    · rw [if_neg h, if_neg (by omega), insN_i x l]; rfl
theorem sortN_i : ∀ l : List Nat, sortI (l.map fun y : Nat => (y : Int)) = (sortN l).map fun y : Nat => (y : Int)
  | [] => rfl
  | x :: l => by
    show insI (x : Int) (sortI (l.map fun y : Nat => (y : Int))) = _
    rw [sortN_i l, insN_i]
    rfl
theorem ou_sort : OpU sortD (eL nI) (some true) (eL nI) fun l => some (sortN l) := fun l z h => by
  cases h
  refine ⟨(true, eL nI (sortN l)), ?_, rfl, fun q e => by cases e; rfl⟩
  show (intsOf (l.map nI)).map (fun ns => (true, PyData.list ((sortI ns).map .int))) = _
  rw [intsOf_n]
  show some (true, PyData.list ((sortI (l.map fun y : Nat => (y : Int))).map .int)) = _
  rw [sortN_i, List.map_map]
  rfl
def remO (l : List Nat) (x : Nat) : Option (List Nat) := (l.findIdx? (· == x)).map (l.eraseIdx ·)
theorem rem_ok {l z : List Nat} {x : Nat} (h : remO l x = some z) : oRemove (l.map nI) [nI x] = some (z.map nI, .none) := by
  unfold remO at h
  cases hj : l.findIdx? (· == x) with
  | none => rw [hj] at h; cases h
  | some j =>
    rw [hj] at h
    cases h
    show (intsOf (l.map nI)).bind (fun ns => (remAt ns (x : Int)).map fun j => ((l.map nI).eraseIdx j, PyData.none)) = _
    rw [intsOf_n]
    have e : remAt (l.map fun y : Nat => (y : Int)) (x : Int) = some j := by
      unfold remAt
      rw [List.findIdx?_map, ← hj]
      congr 1
      funext y
      show ((y : Int) == (x : Int)) = (y == x)
      rw [show ((y : Int) == (x : Int)) = decide ((y : Int) = (x : Int)) from rfl, show (y == x) = decide (y = x) from rfl]
      exact decide_eq_decide.mpr Int.ofNat_inj
    show (remAt (l.map fun y : Nat => (y : Int)) (x : Int)).map (fun j => ((l.map nI).eraseIdx j, PyData.none)) = _
    rw [e]
    show some (_, _) = _
    rw [eraseIdx_mp]
theorem js_rem {i : Nat} {f : M D} {l : List Nat} {t : 𝕄.T Nat} (h0 : Γ[i]? = some (.own (eL nI l))) (hf : JE 𝕄 Γ f t (eE nI)) :
    JS 𝕄 Γ (dropM (methM i oRemove (consM f (M.ret [])))) (𝕄.bind t fun x => 𝕄.lift (remO l x)) (NxP fun z => Γ.set i (.own (eL nI z))) := js_meth h0 (fun _ _ h => rem_ok h) hf
theorem je_trg {f : M D} {t : 𝕄.T Nat} (h : JE 𝕄 Γ f t (eE nI)) : JE 𝕄 Γ (trgM f) (𝕄.bind t fun n => 𝕄.lift (rgO n)) (eE (eT nI)) := by
  unfold trgM
  refine je_bind h fun n r hr => ?_
  cases hr
  refine je_lift1 fun l hl => ?_
  unfold rgO at hl
  by_cases hn : n ≤ 2 ^ 20
  · rw [if_pos hn] at hl
    cases hl
    refine ⟨.tuple (rgD 0 (n : Int)), ?_, by rw [rgD_n]; rfl⟩
    show (if rgOk 0 (n : Int) then M.ret (PyData.tuple (rgD 0 (n : Int))) else stk) = _
    rw [if_pos (by unfold rgOk; simp only [Bool.and_eq_true, decide_eq_true_eq]; omega)]
  · rw [if_neg hn] at hl
    cases hl

def eP4 {α1 α2 α3 α4 : Type} (e1 : α1 → D) (e2 : α2 → D) (e3 : α3 → D) (e4 : α4 → D) (p : α1 × α2 × α3 × α4) : D := .tuple [e1 p.1, e2 p.2.1, e3 p.2.2.1, e4 p.2.2.2]
def eQ4 {α1 α2 α3 α4 : Type} (e1 : α1 → D) (e2 : α2 → D) (e3 : α3 → D) (e4 : α4 → D) (p : α1 × α2 × α3 × α4) : D := .list [e1 p.1, e2 p.2.1, e3 p.2.2.1, e4 p.2.2.2]
def eP5 {α1 α2 α3 α4 α5 : Type} (e1 : α1 → D) (e2 : α2 → D) (e3 : α3 → D) (e4 : α4 → D) (e5 : α5 → D) (p : α1 × α2 × α3 × α4 × α5) : D := .tuple [e1 p.1, e2 p.2.1, e3 p.2.2.1, e4 p.2.2.2.1, e5 p.2.2.2.2]
def eQ5 {α1 α2 α3 α4 α5 : Type} (e1 : α1 → D) (e2 : α2 → D) (e3 : α3 → D) (e4 : α4 → D) (e5 : α5 → D) (p : α1 × α2 × α3 × α4 × α5) : D := .list [e1 p.1, e2 p.2.1, e3 p.2.2.1, e4 p.2.2.2.1, e5 p.2.2.2.2]
def eP6 {α1 α2 α3 α4 α5 α6 : Type} (e1 : α1 → D) (e2 : α2 → D) (e3 : α3 → D) (e4 : α4 → D) (e5 : α5 → D) (e6 : α6 → D) (p : α1 × α2 × α3 × α4 × α5 × α6) : D := .tuple [e1 p.1, e2 p.2.1, e3 p.2.2.1, e4 p.2.2.2.1, e5 p.2.2.2.2.1, e6 p.2.2.2.2.2]
def eQ6 {α1 α2 α3 α4 α5 α6 : Type} (e1 : α1 → D) (e2 : α2 → D) (e3 : α3 → D) (e4 : α4 → D) (e5 : α5 → D) (e6 : α6 → D) (p : α1 × α2 × α3 × α4 × α5 × α6) : D := .list [e1 p.1, e2 p.2.1, e3 p.2.2.1, e4 p.2.2.2.1, e5 p.2.2.2.2.1, e6 p.2.2.2.2.2]
def eP7 {α1 α2 α3 α4 α5 α6 α7 : Type} (e1 : α1 → D) (e2 : α2 → D) (e3 : α3 → D) (e4 : α4 → D) (e5 : α5 → D) (e6 : α6 → D) (e7 : α7 → D) (p : α1 × α2 × α3 × α4 × α5 × α6 × α7) : D := .tuple [e1 p.1, e2 p.2.1, e3 p.2.2.1, e4 p.2.2.2.1, e5 p.2.2.2.2.1, e6 p.2.2.2.2.2.1, e7 p.2.2.2.2.2.2]
def eQ7 {α1 α2 α3 α4 α5 α6 α7 : Type} (e1 : α1 → D) (e2 : α2 → D) (e3 : α3 → D) (e4 : α4 → D) (e5 : α5 → D) (e6 : α6 → D) (e7 : α7 → D) (p : α1 × α2 × α3 × α4 × α5 × α6 × α7) : D := .list [e1 p.1, e2 p.2.1, e3 p.2.2.1, e4 p.2.2.2.1, e5 p.2.2.2.2.1, e6 p.2.2.2.2.2.1, e7 p.2.2.2.2.2.2]
def eP8 {α1 α2 α3 α4 α5 α6 α7 α8 : Type} (e1 : α1 → D) (e2 : α2 → D) (e3 : α3 → D) (e4 : α4 → D) (e5 : α5 → D) (e6 : α6 → D) (e7 : α7 → D) (e8 : α8 → D) (p : α1 × α2 × α3 × α4 × α5 × α6 × α7 × α8) : D := .tuple [e1 p.1, e2 p.2.1, e3 p.2.2.1, e4 p.2.2.2.1, e5 p.2.2.2.2.1, e6 p.2.2.2.2.2.1, e7 p.2.2.2.2.2.2.1, e8 p.2.2.2.2.2.2.2]
def eQ8 {α1 α2 α3 α4 α5 α6 α7 α8 : Type} (e1 : α1 → D) (e2 : α2 → D) (e3 : α3 → D) (e4 : α4 → D) (e5 : α5 → D) (e6 : α6 → D) (e7 : α7 → D) (e8 : α8 → D) (p : α1 × α2 × α3 × α4 × α5 × α6 × α7 × α8) : D := .list [e1 p.1, e2 p.2.1, e3 p.2.2.1, e4 p.2.2.2.1, e5 p.2.2.2.2.1, e6 p.2.2.2.2.2.1, e7 p.2.2.2.2.2.2.1, e8 p.2.2.2.2.2.2.2]
def eP9 {α1 α2 α3 α4 α5 α6 α7 α8 α9 : Type} (e1 : α1 → D) (e2 : α2 → D) (e3 : α3 → D) (e4 : α4 → D) (e5 : α5 → D) (e6 : α6 → D) (e7 : α7 → D) (e8 : α8 → D) (e9 : α9 → D) (p : α1 × α2 × α3 × α4 × α5 × α6 × α7 × α8 × α9) : D := .tuple [e1 p.1, e2 p.2.1, e3 p.2.2.1, e4 p.2.2.2.1, e5 p.2.2.2.2.1, e6 p.2.2.2.2.2.1, e7 p.2.2.2.2.2.2.1, e8 p.2.2.2.2.2.2.2.1, e9 p.2.2.2.2.2.2.2.2]
def eQ9 {α1 α2 α3 α4 α5 α6 α7 α8 α9 : Type} (e1 : α1 → D) (e2 : α2 → D) (e3 : α3 → D) (e4 : α4 → D) (e5 : α5 → D) (e6 : α6 → D) (e7 : α7 → D) (e8 : α8 → D) (e9 : α9 → D) (p : α1 × α2 × α3 × α4 × α5 × α6 × α7 × α8 × α9) : D := .list [e1 p.1, e2 p.2.1, e3 p.2.2.1, e4 p.2.2.2.1, e5 p.2.2.2.2.1, e6 p.2.2.2.2.2.1, e7 p.2.2.2.2.2.2.1, e8 p.2.2.2.2.2.2.2.1, e9 p.2.2.2.2.2.2.2.2]
def eP10 {α1 α2 α3 α4 α5 α6 α7 α8 α9 α10 : Type} (e1 : α1 → D) (e2 : α2 → D) (e3 : α3 → D) (e4 : α4 → D) (e5 : α5 → D) (e6 : α6 → D) (e7 : α7 → D) (e8 : α8 → D) (e9 : α9 → D) (e10 : α10 → D) (p : α1 × α2 × α3 × α4 × α5 × α6 × α7 × α8 × α9 × α10) : D := .tuple [e1 p.1, e2 p.2.1, e3 p.2.2.1, e4 p.2.2.2.1, e5 p.2.2.2.2.1, e6 p.2.2.2.2.2.1, e7 p.2.2.2.2.2.2.1, e8 p.2.2.2.2.2.2.2.1, e9 p.2.2.2.2.2.2.2.2.1, e10 p.2.2.2.2.2.2.2.2.2]
def eQ10 {α1 α2 α3 α4 α5 α6 α7 α8 α9 α10 : Type} (e1 : α1 → D) (e2 : α2 → D) (e3 : α3 → D) (e4 : α4 → D) (e5 : α5 → D) (e6 : α6 → D) (e7 : α7 → D) (e8 : α8 → D) (e9 : α9 → D) (e10 : α10 → D) (p : α1 × α2 × α3 × α4 × α5 × α6 × α7 × α8 × α9 × α10) : D := .list [e1 p.1, e2 p.2.1, e3 p.2.2.1, e4 p.2.2.2.1, e5 p.2.2.2.2.1, e6 p.2.2.2.2.2.1, e7 p.2.2.2.2.2.2.1, e8 p.2.2.2.2.2.2.2.1, e9 p.2.2.2.2.2.2.2.2.1, e10 p.2.2.2.2.2.2.2.2.2]
theorem fa_eQ {α1 α2 : Type} [DecidableEq α1] [DecidableEq α2] {d1 d2 : Nat} {e1 : α1 → D} {e2 : α2 → D} (f1 : Fa d1 e1) (f2 : Fa d2 e2) : Fa (d1 + d2 + 1) (eQ e1 e2) where
  lay := fun p => by unfold eQ; simp only [PyData.canLay0, PyData.canLayAll0, f1.lay, f2.lay, Bool.and_self]
  dep := fun p => by
    unfold eQ
    simp only [PyData.depth, PyData.depthAll]
    have h0 := f1.dep p.1
    have h1 := f2.dep p.2
    omega
  eqv := fun p q => by
    unfold eQ
    simp only [PyData.eqv, PyData.eqvAll]
    rw [f1.eqv, f2.eqv, Bool.and_true, ← Bool.decide_and]
    exact decide_eq_decide.mpr ⟨fun e => Prod.ext e.1 (e.2), fun e => by rw [e]; exact ⟨rfl, rfl⟩⟩
set_option synthInstance.maxSize 2000
set_option synthInstance.maxHeartbeats 0
theorem fa_eP3 {α1 α2 α3 : Type} [DecidableEq α1] [DecidableEq α2] [DecidableEq α3] {d1 d2 d3 : Nat} {e1 : α1 → D} {e2 : α2 → D} {e3 : α3 → D} (f1 : Fa d1 e1) (f2 : Fa d2 e2) (f3 : Fa d3 e3) : Fa (d1 + d2 + d3 + 1) (eP3 e1 e2 e3) where
  lay := fun p => by unfold eP3; simp only [PyData.canLay0, PyData.canLayAll0, f1.lay, f2.lay, f3.lay, Bool.and_self]
  dep := fun p => by
    unfold eP3
    simp only [PyData.depth, PyData.depthAll]
    have h0 := f1.dep p.1
    have h1 := f2.dep p.2.1
    have h2 := f3.dep p.2.2
    omega
  eqv := fun p q => by
    unfold eP3
    simp only [PyData.eqv, PyData.eqvAll]
    rw [f1.eqv, f2.eqv, f3.eqv, Bool.and_true, ← Bool.decide_and, ← Bool.decide_and]
    exact decide_eq_decide.mpr ⟨fun e => Prod.ext e.1 (Prod.ext e.2.1 (e.2.2)), fun e => by rw [e]; exact ⟨rfl, ⟨rfl, rfl⟩⟩⟩
theorem fa_eQ3 {α1 α2 α3 : Type} [DecidableEq α1] [DecidableEq α2] [DecidableEq α3] {d1 d2 d3 : Nat} {e1 : α1 → D} {e2 : α2 → D} {e3 : α3 → D} (f1 : Fa d1 e1) (f2 : Fa d2 e2) (f3 : Fa d3 e3) : Fa (d1 + d2 + d3 + 1) (eQ3 e1 e2 e3) where
  lay := fun p => by unfold eQ3; simp only [PyData.canLay0, PyData.canLayAll0, f1.lay, f2.lay, f3.lay, Bool.and_self]
  dep := fun p => by
    unfold eQ3
    simp only [PyData.depth, PyData.depthAll]
    have h0 := f1.dep p.1
    have h1 := f2.dep p.2.1
    have h2 := f3.dep p.2.2
    omega
  eqv := fun p q => by
    unfold eQ3
    simp only [PyData.eqv, PyData.eqvAll]
    rw [f1.eqv, f2.eqv, f3.eqv, Bool.and_true, ← Bool.decide_and, ← Bool.decide_and]
    exact decide_eq_decide.mpr ⟨fun e => Prod.ext e.1 (Prod.ext e.2.1 (e.2.2)), fun e => by rw [e]; exact ⟨rfl, ⟨rfl, rfl⟩⟩⟩
theorem fa_eP4 {α1 α2 α3 α4 : Type} [DecidableEq α1] [DecidableEq α2] [DecidableEq α3] [DecidableEq α4] {d1 d2 d3 d4 : Nat} {e1 : α1 → D} {e2 : α2 → D} {e3 : α3 → D} {e4 : α4 → D} (f1 : Fa d1 e1) (f2 : Fa d2 e2) (f3 : Fa d3 e3) (f4 : Fa d4 e4) : Fa (d1 + d2 + d3 + d4 + 1) (eP4 e1 e2 e3 e4) where
  lay := fun p => by unfold eP4; simp only [PyData.canLay0, PyData.canLayAll0, f1.lay, f2.lay, f3.lay, f4.lay, Bool.and_self]
  dep := fun p => by
    unfold eP4
    simp only [PyData.depth, PyData.depthAll]
    have h0 := f1.dep p.1
    have h1 := f2.dep p.2.1
    have h2 := f3.dep p.2.2.1
    have h3 := f4.dep p.2.2.2
    omega
  eqv := fun p q => by
    unfold eP4
    simp only [PyData.eqv, PyData.eqvAll]
    rw [f1.eqv, f2.eqv, f3.eqv, f4.eqv, Bool.and_true, ← Bool.decide_and, ← Bool.decide_and, ← Bool.decide_and]
    exact decide_eq_decide.mpr ⟨fun e => Prod.ext e.1 (Prod.ext e.2.1 (Prod.ext e.2.2.1 (e.2.2.2))), fun e => by rw [e]; exact ⟨rfl, ⟨rfl, ⟨rfl, rfl⟩⟩⟩⟩
theorem fa_eQ4 {α1 α2 α3 α4 : Type} [DecidableEq α1] [DecidableEq α2] [DecidableEq α3] [DecidableEq α4] {d1 d2 d3 d4 : Nat} {e1 : α1 → D} {e2 : α2 → D} {e3 : α3 → D} {e4 : α4 → D} (f1 : Fa d1 e1) (f2 : Fa d2 e2) (f3 : Fa d3 e3) (f4 : Fa d4 e4) : Fa (d1 + d2 + d3 + d4 + 1) (eQ4 e1 e2 e3 e4) where
  lay := fun p => by unfold eQ4; simp only [PyData.canLay0, PyData.canLayAll0, f1.lay, f2.lay, f3.lay, f4.lay, Bool.and_self]
  dep := fun p => by
    unfold eQ4
    simp only [PyData.depth, PyData.depthAll]
    have h0 := f1.dep p.1
    have h1 := f2.dep p.2.1
    have h2 := f3.dep p.2.2.1
    have h3 := f4.dep p.2.2.2
    omega
  eqv := fun p q => by
    unfold eQ4
    simp only [PyData.eqv, PyData.eqvAll]
    rw [f1.eqv, f2.eqv, f3.eqv, f4.eqv, Bool.and_true, ← Bool.decide_and, ← Bool.decide_and, ← Bool.decide_and]
    exact decide_eq_decide.mpr ⟨fun e => Prod.ext e.1 (Prod.ext e.2.1 (Prod.ext e.2.2.1 (e.2.2.2))), fun e => by rw [e]; exact ⟨rfl, ⟨rfl, ⟨rfl, rfl⟩⟩⟩⟩
theorem fa_eP5 {α1 α2 α3 α4 α5 : Type} [DecidableEq α1] [DecidableEq α2] [DecidableEq α3] [DecidableEq α4] [DecidableEq α5] {d1 d2 d3 d4 d5 : Nat} {e1 : α1 → D} {e2 : α2 → D} {e3 : α3 → D} {e4 : α4 → D} {e5 : α5 → D} (f1 : Fa d1 e1) (f2 : Fa d2 e2) (f3 : Fa d3 e3) (f4 : Fa d4 e4) (f5 : Fa d5 e5) : Fa (d1 + d2 + d3 + d4 + d5 + 1) (eP5 e1 e2 e3 e4 e5) where
  lay := fun p => by unfold eP5; simp only [PyData.canLay0, PyData.canLayAll0, f1.lay, f2.lay, f3.lay, f4.lay, f5.lay, Bool.and_self]
  dep := fun p => by
    unfold eP5
    simp only [PyData.depth, PyData.depthAll]
    have h0 := f1.dep p.1
    have h1 := f2.dep p.2.1
    have h2 := f3.dep p.2.2.1
    have h3 := f4.dep p.2.2.2.1
    have h4 := f5.dep p.2.2.2.2
    omega
  eqv := fun p q => by
    unfold eP5
    simp only [PyData.eqv, PyData.eqvAll]
    rw [f1.eqv, f2.eqv, f3.eqv, f4.eqv, f5.eqv, Bool.and_true, ← Bool.decide_and, ← Bool.decide_and, ← Bool.decide_and, ← Bool.decide_and]
    exact decide_eq_decide.mpr ⟨fun e => Prod.ext e.1 (Prod.ext e.2.1 (Prod.ext e.2.2.1 (Prod.ext e.2.2.2.1 (e.2.2.2.2)))), fun e => by rw [e]; exact ⟨rfl, ⟨rfl, ⟨rfl, ⟨rfl, rfl⟩⟩⟩⟩⟩
theorem fa_eQ5 {α1 α2 α3 α4 α5 : Type} [DecidableEq α1] [DecidableEq α2] [DecidableEq α3] [DecidableEq α4] [DecidableEq α5] {d1 d2 d3 d4 d5 : Nat} {e1 : α1 → D} {e2 : α2 → D} {e3 : α3 → D} {e4 : α4 → D} {e5 : α5 → D} (f1 : Fa d1 e1) (f2 : Fa d2 e2) (f3 : Fa d3 e3) (f4 : Fa d4 e4) (f5 : Fa d5 e5) : Fa (d1 + d2 + d3 + d4 + d5 + 1) (eQ5 e1 e2 e3 e4 e5) where
  lay := fun p => by unfold eQ5; simp only [PyData.canLay0, PyData.canLayAll0, f1.lay, f2.lay, f3.lay, f4.lay, f5.lay, Bool.and_self]
  dep := fun p => by
    unfold eQ5
    simp only [PyData.depth, PyData.depthAll]
    have h0 := f1.dep p.1
    have h1 := f2.dep p.2.1
    have h2 := f3.dep p.2.2.1
    have h3 := f4.dep p.2.2.2.1
    have h4 := f5.dep p.2.2.2.2
    omega
  eqv := fun p q => by
    unfold eQ5
    simp only [PyData.eqv, PyData.eqvAll]
    rw [f1.eqv, f2.eqv, f3.eqv, f4.eqv, f5.eqv, Bool.and_true, ← Bool.decide_and, ← Bool.decide_and, ← Bool.decide_and, ← Bool.decide_and]
    exact decide_eq_decide.mpr ⟨fun e => Prod.ext e.1 (Prod.ext e.2.1 (Prod.ext e.2.2.1 (Prod.ext e.2.2.2.1 (e.2.2.2.2)))), fun e => by rw [e]; exact ⟨rfl, ⟨rfl, ⟨rfl, ⟨rfl, rfl⟩⟩⟩⟩⟩
theorem fa_eP6 {α1 α2 α3 α4 α5 α6 : Type} [DecidableEq α1] [DecidableEq α2] [DecidableEq α3] [DecidableEq α4] [DecidableEq α5] [DecidableEq α6] {d1 d2 d3 d4 d5 d6 : Nat} {e1 : α1 → D} {e2 : α2 → D} {e3 : α3 → D} {e4 : α4 → D} {e5 : α5 → D} {e6 : α6 → D} (f1 : Fa d1 e1) (f2 : Fa d2 e2) (f3 : Fa d3 e3) (f4 : Fa d4 e4) (f5 : Fa d5 e5) (f6 : Fa d6 e6) : Fa (d1 + d2 + d3 + d4 + d5 + d6 + 1) (eP6 e1 e2 e3 e4 e5 e6) where
  lay := fun p => by unfold eP6; simp only [PyData.canLay0, PyData.canLayAll0, f1.lay, f2.lay, f3.lay, f4.lay, f5.lay, f6.lay, Bool.and_self]
  dep := fun p => by
    unfold eP6
    simp only [PyData.depth, PyData.depthAll]
    have h0 := f1.dep p.1
    have h1 := f2.dep p.2.1
    have h2 := f3.dep p.2.2.1
    have h3 := f4.dep p.2.2.2.1
    have h4 := f5.dep p.2.2.2.2.1
    have h5 := f6.dep p.2.2.2.2.2
    omega
  eqv := fun p q => by
    unfold eP6
    simp only [PyData.eqv, PyData.eqvAll]
    rw [f1.eqv, f2.eqv, f3.eqv, f4.eqv, f5.eqv, f6.eqv, Bool.and_true, ← Bool.decide_and, ← Bool.decide_and, ← Bool.decide_and, ← Bool.decide_and, ← Bool.decide_and]
    exact decide_eq_decide.mpr ⟨fun e => Prod.ext e.1 (Prod.ext e.2.1 (Prod.ext e.2.2.1 (Prod.ext e.2.2.2.1 (Prod.ext e.2.2.2.2.1 (e.2.2.2.2.2))))), fun e => by rw [e]; exact ⟨rfl, ⟨rfl, ⟨rfl, ⟨rfl, ⟨rfl, rfl⟩⟩⟩⟩⟩⟩
theorem fa_eQ6 {α1 α2 α3 α4 α5 α6 : Type} [DecidableEq α1] [DecidableEq α2] [DecidableEq α3] [DecidableEq α4] [DecidableEq α5] [DecidableEq α6] {d1 d2 d3 d4 d5 d6 : Nat} {e1 : α1 → D} {e2 : α2 → D} {e3 : α3 → D} {e4 : α4 → D} {e5 : α5 → D} {e6 : α6 → D} (f1 : Fa d1 e1) (f2 : Fa d2 e2) (f3 : Fa d3 e3) (f4 : Fa d4 e4) (f5 : Fa d5 e5) (f6 : Fa d6 e6) : Fa (d1 + d2 + d3 + d4 + d5 + d6 + 1) (eQ6 e1 e2 e3 e4 e5 e6) where
  lay := fun p => by unfold eQ6; simp only [PyData.canLay0, PyData.canLayAll0, f1.lay, f2.lay, f3.lay, f4.lay, f5.lay, f6.lay, Bool.and_self]
  dep := fun p => by
    unfold eQ6
    simp only [PyData.depth, PyData.depthAll]
    have h0 := f1.dep p.1
    have h1 := f2.dep p.2.1
    have h2 := f3.dep p.2.2.1
    have h3 := f4.dep p.2.2.2.1
    have h4 := f5.dep p.2.2.2.2.1
    have h5 := f6.dep p.2.2.2.2.2
    omega
  eqv := fun p q => by
    unfold eQ6
    simp only [PyData.eqv, PyData.eqvAll]
    rw [f1.eqv, f2.eqv, f3.eqv, f4.eqv, f5.eqv, f6.eqv, Bool.and_true, ← Bool.decide_and, ← Bool.decide_and, ← Bool.decide_and, ← Bool.decide_and, ← Bool.decide_and]
    exact decide_eq_decide.mpr ⟨fun e => Prod.ext e.1 (Prod.ext e.2.1 (Prod.ext e.2.2.1 (Prod.ext e.2.2.2.1 (Prod.ext e.2.2.2.2.1 (e.2.2.2.2.2))))), fun e => by rw [e]; exact ⟨rfl, ⟨rfl, ⟨rfl, ⟨rfl, ⟨rfl, rfl⟩⟩⟩⟩⟩⟩
theorem fa_eP7 {α1 α2 α3 α4 α5 α6 α7 : Type} [DecidableEq α1] [DecidableEq α2] [DecidableEq α3] [DecidableEq α4] [DecidableEq α5] [DecidableEq α6] [DecidableEq α7] {d1 d2 d3 d4 d5 d6 d7 : Nat} {e1 : α1 → D} {e2 : α2 → D} {e3 : α3 → D} {e4 : α4 → D} {e5 : α5 → D} {e6 : α6 → D} {e7 : α7 → D} (f1 : Fa d1 e1) (f2 : Fa d2 e2) (f3 : Fa d3 e3) (f4 : Fa d4 e4) (f5 : Fa d5 e5) (f6 : Fa d6 e6) (f7 : Fa d7 e7) : Fa (d1 + d2 + d3 + d4 + d5 + d6 + d7 + 1) (eP7 e1 e2 e3 e4 e5 e6 e7) where
  lay := fun p => by unfold eP7; simp only [PyData.canLay0, PyData.canLayAll0, f1.lay, f2.lay, f3.lay, f4.lay, f5.lay, f6.lay, f7.lay, Bool.and_self]
  dep := fun p => by
    unfold eP7
    simp only [PyData.depth, PyData.depthAll]
    have h0 := f1.dep p.1
    have h1 := f2.dep p.2.1
    have h2 := f3.dep p.2.2.1
    have h3 := f4.dep p.2.2.2.1
    have h4 := f5.dep p.2.2.2.2.1
    have h5 := f6.dep p.2.2.2.2.2.1
    have h6 := f7.dep p.2.2.2.2.2.2
    omega
  eqv := fun p q => by
    unfold eP7
    simp only [PyData.eqv, PyData.eqvAll]
    rw [f1.eqv, f2.eqv, f3.eqv, f4.eqv, f5.eqv, f6.eqv, f7.eqv, Bool.and_true, ← Bool.decide_and, ← Bool.decide_and, ← Bool.decide_and, ← Bool.decide_and, ← Bool.decide_and, ← Bool.decide_and]
    exact decide_eq_decide.mpr ⟨fun e => Prod.ext e.1 (Prod.ext e.2.1 (Prod.ext e.2.2.1 (Prod.ext e.2.2.2.1 (Prod.ext e.2.2.2.2.1 (Prod.ext e.2.2.2.2.2.1 (e.2.2.2.2.2.2)))))), fun e => by rw [e]; exact ⟨rfl, ⟨rfl, ⟨rfl, ⟨rfl, ⟨rfl, ⟨rfl, rfl⟩⟩⟩⟩⟩⟩⟩
theorem fa_eQ7 {α1 α2 α3 α4 α5 α6 α7 : Type} [DecidableEq α1] [DecidableEq α2] [DecidableEq α3] [DecidableEq α4] [DecidableEq α5] [DecidableEq α6] [DecidableEq α7] {d1 d2 d3 d4 d5 d6 d7 : Nat} {e1 : α1 → D} {e2 : α2 → D} {e3 : α3 → D} {e4 : α4 → D} {e5 : α5 → D} {e6 : α6 → D} {e7 : α7 → D} (f1 : Fa d1 e1) (f2 : Fa d2 e2) (f3 : Fa d3 e3) (f4 : Fa d4 e4) (f5 : Fa d5 e5) (f6 : Fa d6 e6) (f7 : Fa d7 e7) : Fa (d1 + d2 + d3 + d4 + d5 + d6 + d7 + 1) (eQ7 e1 e2 e3 e4 e5 e6 e7) where
  lay := fun p => by unfold eQ7; simp only [PyData.canLay0, PyData.canLayAll0, f1.lay, f2.lay, f3.lay, f4.lay, f5.lay, f6.lay, f7.lay, Bool.and_self]
  dep := fun p => by
    unfold eQ7
    simp only [PyData.depth, PyData.depthAll]
    have h0 := f1.dep p.1
    have h1 := f2.dep p.2.1
    have h2 := f3.dep p.2.2.1
    have h3 := f4.dep p.2.2.2.1
    have h4 := f5.dep p.2.2.2.2.1
    have h5 := f6.dep p.2.2.2.2.2.1
    have h6 := f7.dep p.2.2.2.2.2.2
    omega
  eqv := fun p q => by
    unfold eQ7
    simp only [PyData.eqv, PyData.eqvAll]
    rw [f1.eqv, f2.eqv, f3.eqv, f4.eqv, f5.eqv, f6.eqv, f7.eqv, Bool.and_true, ← Bool.decide_and, ← Bool.decide_and, ← Bool.decide_and, ← Bool.decide_and, ← Bool.decide_and, ← Bool.decide_and]
    exact decide_eq_decide.mpr ⟨fun e => Prod.ext e.1 (Prod.ext e.2.1 (Prod.ext e.2.2.1 (Prod.ext e.2.2.2.1 (Prod.ext e.2.2.2.2.1 (Prod.ext e.2.2.2.2.2.1 (e.2.2.2.2.2.2)))))), fun e => by rw [e]; exact ⟨rfl, ⟨rfl, ⟨rfl, ⟨rfl, ⟨rfl, ⟨rfl, rfl⟩⟩⟩⟩⟩⟩⟩
theorem fa_eP8 {α1 α2 α3 α4 α5 α6 α7 α8 : Type} [DecidableEq α1] [DecidableEq α2] [DecidableEq α3] [DecidableEq α4] [DecidableEq α5] [DecidableEq α6] [DecidableEq α7] [DecidableEq α8] {d1 d2 d3 d4 d5 d6 d7 d8 : Nat} {e1 : α1 → D} {e2 : α2 → D} {e3 : α3 → D} {e4 : α4 → D} {e5 : α5 → D} {e6 : α6 → D} {e7 : α7 → D} {e8 : α8 → D} (f1 : Fa d1 e1) (f2 : Fa d2 e2) (f3 : Fa d3 e3) (f4 : Fa d4 e4) (f5 : Fa d5 e5) (f6 : Fa d6 e6) (f7 : Fa d7 e7) (f8 : Fa d8 e8) : Fa (d1 + d2 + d3 + d4 + d5 + d6 + d7 + d8 + 1) (eP8 e1 e2 e3 e4 e5 e6 e7 e8) where
  lay := fun p => by unfold eP8; simp only [PyData.canLay0, PyData.canLayAll0, f1.lay, f2.lay, f3.lay, f4.lay, f5.lay, f6.lay, f7.lay, f8.lay, Bool.and_self]
  dep := fun p => by
    unfold eP8
    simp only [PyData.depth, PyData.depthAll]
    have h0 := f1.dep p.1
    have h1 := f2.dep p.2.1
    have h2 := f3.dep p.2.2.1
    have h3 := f4.dep p.2.2.2.1
    have h4 := f5.dep p.2.2.2.2.1
    have h5 := f6.dep p.2.2.2.2.2.1
    have h6 := f7.dep p.2.2.2.2.2.2.1
    have h7 := f8.dep p.2.2.2.2.2.2.2
    omega
  eqv := fun p q => by
    unfold eP8
    simp only [PyData.eqv, PyData.eqvAll]
    rw [f1.eqv, f2.eqv, f3.eqv, f4.eqv, f5.eqv, f6.eqv, f7.eqv, f8.eqv, Bool.and_true, ← Bool.decide_and, ← Bool.decide_and, ← Bool.decide_and, ← Bool.decide_and, ← Bool.decide_and, ← Bool.decide_and, ← Bool.decide_and]
    exact decide_eq_decide.mpr ⟨fun e => Prod.ext e.1 (Prod.ext e.2.1 (Prod.ext e.2.2.1 (Prod.ext e.2.2.2.1 (Prod.ext e.2.2.2.2.1 (Prod.ext e.2.2.2.2.2.1 (Prod.ext e.2.2.2.2.2.2.1 (e.2.2.2.2.2.2.2))))))), fun e => by rw [e]; exact ⟨rfl, ⟨rfl, ⟨rfl, ⟨rfl, ⟨rfl, ⟨rfl, ⟨rfl, rfl⟩⟩⟩⟩⟩⟩⟩⟩
theorem fa_eQ8 {α1 α2 α3 α4 α5 α6 α7 α8 : Type} [DecidableEq α1] [DecidableEq α2] [DecidableEq α3] [DecidableEq α4] [DecidableEq α5] [DecidableEq α6] [DecidableEq α7] [DecidableEq α8] {d1 d2 d3 d4 d5 d6 d7 d8 : Nat} {e1 : α1 → D} {e2 : α2 → D} {e3 : α3 → D} {e4 : α4 → D} {e5 : α5 → D} {e6 : α6 → D} {e7 : α7 → D} {e8 : α8 → D} (f1 : Fa d1 e1) (f2 : Fa d2 e2) (f3 : Fa d3 e3) (f4 : Fa d4 e4) (f5 : Fa d5 e5) (f6 : Fa d6 e6) (f7 : Fa d7 e7) (f8 : Fa d8 e8) : Fa (d1 + d2 + d3 + d4 + d5 + d6 + d7 + d8 + 1) (eQ8 e1 e2 e3 e4 e5 e6 e7 e8) where
  lay := fun p => by unfold eQ8; simp only [PyData.canLay0, PyData.canLayAll0, f1.lay, f2.lay, f3.lay, f4.lay, f5.lay, f6.lay, f7.lay, f8.lay, Bool.and_self]
  dep := fun p => by
    unfold eQ8
    simp only [PyData.depth, PyData.depthAll]
    have h0 := f1.dep p.1
    have h1 := f2.dep p.2.1
    have h2 := f3.dep p.2.2.1
    have h3 := f4.dep p.2.2.2.1
    have h4 := f5.dep p.2.2.2.2.1
    have h5 := f6.dep p.2.2.2.2.2.1
    have h6 := f7.dep p.2.2.2.2.2.2.1
    have h7 := f8.dep p.2.2.2.2.2.2.2
    omega
  eqv := fun p q => by
    unfold eQ8
    simp only [PyData.eqv, PyData.eqvAll]
    rw [f1.eqv, f2.eqv, f3.eqv, f4.eqv, f5.eqv, f6.eqv, f7.eqv, f8.eqv, Bool.and_true, ← Bool.decide_and, ← Bool.decide_and, ← Bool.decide_and, ← Bool.decide_and, ← Bool.decide_and, ← Bool.decide_and, ← Bool.decide_and]
    exact decide_eq_decide.mpr ⟨fun e => Prod.ext e.1 (Prod.ext e.2.1 (Prod.ext e.2.2.1 (Prod.ext e.2.2.2.1 (Prod.ext e.2.2.2.2.1 (Prod.ext e.2.2.2.2.2.1 (Prod.ext e.2.2.2.2.2.2.1 (e.2.2.2.2.2.2.2))))))), fun e => by rw [e]; exact ⟨rfl, ⟨rfl, ⟨rfl, ⟨rfl, ⟨rfl, ⟨rfl, ⟨rfl, rfl⟩⟩⟩⟩⟩⟩⟩⟩
theorem fa_eP9 {α1 α2 α3 α4 α5 α6 α7 α8 α9 : Type} [DecidableEq α1] [DecidableEq α2] [DecidableEq α3] [DecidableEq α4] [DecidableEq α5] [DecidableEq α6] [DecidableEq α7] [DecidableEq α8] [DecidableEq α9] {d1 d2 d3 d4 d5 d6 d7 d8 d9 : Nat} {e1 : α1 → D} {e2 : α2 → D} {e3 : α3 → D} {e4 : α4 → D} {e5 : α5 → D} {e6 : α6 → D} {e7 : α7 → D} {e8 : α8 → D} {e9 : α9 → D} (f1 : Fa d1 e1) (f2 : Fa d2 e2) (f3 : Fa d3 e3) (f4 : Fa d4 e4) (f5 : Fa d5 e5) (f6 : Fa d6 e6) (f7 : Fa d7 e7) (f8 : Fa d8 e8) (f9 : Fa d9 e9) : Fa (d1 + d2 + d3 + d4 + d5 + d6 + d7 + d8 + d9 + 1) (eP9 e1 e2 e3 e4 e5 e6 e7 e8 e9) where
  lay := fun p => by unfold eP9; simp only [PyData.canLay0, PyData.canLayAll0, f1.lay, f2.lay, f3.lay, f4.lay, f5.lay, f6.lay, f7.lay, f8.lay, f9.lay, Bool.and_self]
  dep := fun p => by
    unfold eP9
    simp only [PyData.depth, PyData.depthAll]
    have h0 := f1.dep p.1
    have h1 := f2.dep p.2.1
    have h2 := f3.dep p.2.2.1
    have h3 := f4.dep p.2.2.2.1
    have h4 := f5.dep p.2.2.2.2.1
    have h5 := f6.dep p.2.2.2.2.2.1
    have h6 := f7.dep p.2.2.2.2.2.2.1
    have h7 := f8.dep p.2.2.2.2.2.2.2.1
    have h8 := f9.dep p.2.2.2.2.2.2.2.2
    omega
  eqv := fun p q => by
    unfold eP9
    simp only [PyData.eqv, PyData.eqvAll]
    rw [f1.eqv, f2.eqv, f3.eqv, f4.eqv, f5.eqv, f6.eqv, f7.eqv, f8.eqv, f9.eqv, Bool.and_true, ← Bool.decide_and, ← Bool.decide_and, ← Bool.decide_and, ← Bool.decide_and, ← Bool.decide_and, ← Bool.decide_and, ← Bool.decide_and, ← Bool.decide_and]
    exact decide_eq_decide.mpr ⟨fun e => Prod.ext e.1 (Prod.ext e.2.1 (Prod.ext e.2.2.1 (Prod.ext e.2.2.2.1 (Prod.ext e.2.2.2.2.1 (Prod.ext e.2.2.2.2.2.1 (Prod.ext e.2.2.2.2.2.2.1 (Prod.ext e.2.2.2.2.2.2.2.1 (e.2.2.2.2.2.2.2.2)))))))), fun e => by rw [e]; exact ⟨rfl, ⟨rfl, ⟨rfl, ⟨rfl, ⟨rfl, ⟨rfl, ⟨rfl, ⟨rfl, rfl⟩⟩⟩⟩⟩⟩⟩⟩⟩
theorem fa_eQ9 {α1 α2 α3 α4 α5 α6 α7 α8 α9 : Type} [DecidableEq α1] [DecidableEq α2] [DecidableEq α3] [DecidableEq α4] [DecidableEq α5] [DecidableEq α6] [DecidableEq α7] [DecidableEq α8] [DecidableEq α9] {d1 d2 d3 d4 d5 d6 d7 d8 d9 : Nat} {e1 : α1 → D} {e2 : α2 → D} {e3 : α3 → D} {e4 : α4 → D} {e5 : α5 → D} {e6 : α6 → D} {e7 : α7 → D} {e8 : α8 → D} {e9 : α9 → D} (f1 : Fa d1 e1) (f2 : Fa d2 e2) (f3 : Fa d3 e3) (f4 : Fa d4 e4) (f5 : Fa d5 e5) (f6 : Fa d6 e6) (f7 : Fa d7 e7) (f8 : Fa d8 e8) (f9 : Fa d9 e9) : Fa (d1 + d2 + d3 + d4 + d5 + d6 + d7 + d8 + d9 + 1) (eQ9 e1 e2 e3 e4 e5 e6 e7 e8 e9) where
  lay := fun p => by unfold eQ9; simp only [PyData.canLay0, PyData.canLayAll0, f1.lay, f2.lay, f3.lay, f4.lay, f5.lay, f6.lay, f7.lay, f8.lay, f9.lay, Bool.and_self]
  dep := fun p => by
    unfold eQ9
    simp only [PyData.depth, PyData.depthAll]
    have h0 := f1.dep p.1
    have h1 := f2.dep p.2.1
    have h2 := f3.dep p.2.2.1
    have h3 := f4.dep p.2.2.2.1
    have h4 := f5.dep p.2.2.2.2.1
    have h5 := f6.dep p.2.2.2.2.2.1
    have h6 := f7.dep p.2.2.2.2.2.2.1
    have h7 := f8.dep p.2.2.2.2.2.2.2.1
    have h8 := f9.dep p.2.2.2.2.2.2.2.2
    omega
  eqv := fun p q => by
    unfold eQ9
    simp only [PyData.eqv, PyData.eqvAll]
    rw [f1.eqv, f2.eqv, f3.eqv, f4.eqv, f5.eqv, f6.eqv, f7.eqv, f8.eqv, f9.eqv, Bool.and_true, ← Bool.decide_and, ← Bool.decide_and, ← Bool.decide_and, ← Bool.decide_and, ← Bool.decide_and, ← Bool.decide_and, ← Bool.decide_and, ← Bool.decide_and]
    exact decide_eq_decide.mpr ⟨fun e => Prod.ext e.1 (Prod.ext e.2.1 (Prod.ext e.2.2.1 (Prod.ext e.2.2.2.1 (Prod.ext e.2.2.2.2.1 (Prod.ext e.2.2.2.2.2.1 (Prod.ext e.2.2.2.2.2.2.1 (Prod.ext e.2.2.2.2.2.2.2.1 (e.2.2.2.2.2.2.2.2)))))))), fun e => by rw [e]; exact ⟨rfl, ⟨rfl, ⟨rfl, ⟨rfl, ⟨rfl, ⟨rfl, ⟨rfl, ⟨rfl, rfl⟩⟩⟩⟩⟩⟩⟩⟩⟩
end PL
/-! plain facts about cubes -/
namespace PL
open PySem PySem.Spec PyProof.Rows L2
def mapR {α β : Type} (g : α → β) : List α → List β
  | [] => []
  | x :: l => g x :: mapR g l
theorem map_pt {α β : Type} {f g : α → β} : ∀ {l : List α}, l.map f = mapR g l → ∀ x ∈ l, f x = g x
  | y :: l, h, x, hx => by
    rw [List.map_cons] at h
    unfold mapR at h
    injection h with h1 h2
    rcases List.mem_cons.mp hx with rfl | hx
    · exact h1
    · exact map_pt h2 x hx
def bitN (x i : Nat) : Nat := x >>> i &&& 1
def popN (x : Nat) : Nat := bitN x 0 + bitN x 1 + bitN x 2 + bitN x 3 + bitN x 4 + bitN x 5
def tfN (n : Nat) : List (Nat × Nat) := ((List.range (2 ^ n)).filter fun f => popN f == 2).flatMap fun f => ((List.range (2 ^ n)).filter fun c => c &&& f == 0).map fun c => (f, c)
def wsN (f : Nat) : List Nat := (List.range 6).filter fun i => bitN f i == 1
def cN (p : Nat × Nat) : List Nat := [p.2, p.2 + 2 ^ (wsN p.1).getD 0 0, p.2 + 2 ^ (wsN p.1).getD 1 0, p.2 + p.1]
def f2N : List Nat := (List.range 64).filter fun f => popN f == 2
def sbN (f : Nat) : List Nat := [0, 2 ^ (wsN f).getD 0 0, 2 ^ (wsN f).getD 1 0, f]
theorem f2_sub : f2N.all (fun f => (sbN f).all fun s => s &&& f == s) = true := by decide +kernel
theorem tf_mem {p : Nat × Nat} {n : Nat} (h : p ∈ tfN n) : (popN p.1 = 2 ∧ p.1 < 2 ^ n) ∧ p.2 < 2 ^ n ∧ p.2 &&& p.1 = 0 := by
  unfold tfN at h
  obtain ⟨f, hf, h⟩ := List.mem_flatMap.mp h
  obtain ⟨c, hc, rfl⟩ := List.mem_map.mp h
  obtain ⟨h1, h2⟩ := List.mem_filter.mp hf
  obtain ⟨h3, h4⟩ := List.mem_filter.mp hc
  exact ⟨⟨by simpa using h2, List.mem_range.mp h1⟩, List.mem_range.mp h3, by simpa using h4⟩
theorem f2_mem {p : Nat × Nat} (h : p ∈ tfN 6) : p.1 ∈ f2N := by
  obtain ⟨⟨h1, h2⟩, _⟩ := tf_mem h
  exact List.mem_filter.mpr ⟨List.mem_range.mpr h2, by simp [h1]⟩
def nameN (cs : List Nat) (p : Nat × Nat) (w : Nat) : Option Nat := (cN p).find? fun v => cs.getD v 0 &&& p.1 == w
theorem filterMap_find {q : Nat → Bool} : ∀ {l : List Nat} {x : Nat}, l.find? q = some x → ∃ r, (l.filter q) = x :: r
  | y :: l, x, h => by
    rw [List.find?_cons] at h
    rw [List.filter_cons]
    cases hq : q y with
    | true => rw [hq] at h; cases h; exact ⟨_, rfl⟩
    | false => rw [hq] at h; exact filterMap_find h
def isBowN (cs : List Nat) (p : Nat × Nat) : Bool := match nameN cs p 0, nameN cs p p.1 with
  | some l, some h => popN (l ^^^ h) == 1
  | _, _ => false
def wayN (cs : List Nat) (p : Nat × Nat) : Option Nat := (wsN p.1).find? fun i => bitN (cs.getD p.2 0 ^^^ cs.getD (p.2 + p.1 - 2 ^ i) 0) i == 1
structure Fine (cs : List Nat) (p : Nat × Nat) : Prop where
  lt : ∀ c ∈ cN p, c < cs.length
  lo : ∃ l, nameN cs p 0 = some l
  hi : ∃ h, nameN cs p p.1 = some h
  eq : isBowN cs p = (wayN cs p).isSome
theorem cN_lt : (tfN 6).all (fun p => (cN p).all fun c => decide (c < 64)) = true := by decide +kernel
theorem name_mem {cs : List Nat} {p : Nat × Nat} {w x : Nat} (h : nameN cs p w = some x) : x ∈ cN p := List.mem_of_find?_eq_some h
theorem name_lt {cs : List Nat} {p : Nat × Nat} {w x : Nat} (hp : p ∈ tfN 6) (h : nameN cs p w = some x) : x < 64 := by
  have := List.all_eq_true.mp (List.all_eq_true.mp cN_lt p hp) x (name_mem h)
  simpa using this
theorem bit_xor (x y i : Nat) : bitN (x ^^^ y) i = (bitN x i + bitN y i) % 2 := by
  unfold bitN
  rw [Nat.shiftRight_xor_distrib, Nat.and_one_is_mod, Nat.and_one_is_mod, Nat.and_one_is_mod]
  have m1 : (x >>> i ^^^ y >>> i) % 2 = (x >>> i % 2) ^^^ (y >>> i % 2) := by simpa using @Nat.xor_mod_two_pow (x >>> i) (y >>> i) 1
  have k : ∀ x, x < 2 → ∀ y, y < 2 → (x ^^^ y) = (x + y) % 2 := by decide
  rw [m1, k _ (Nat.mod_lt _ (by decide)) _ (Nat.mod_lt _ (by decide))]
theorem bit_le (x i : Nat) : bitN x i < 2 := by
  unfold bitN
  rw [Nat.and_one_is_mod]
  exact Nat.mod_lt _ (by decide)
theorem low_pair : (tfN 6).all (fun p => (wsN p.1).all fun i => (cN p).filter (fun v => bitN v i == 0) == [p.2, p.2 + p.1 - 2 ^ i]) = true := by decide +kernel
theorem find_head {q : Nat → Bool} : ∀ {l : List Nat}, (l.filter q).head? = l.find? q
  | [] => rfl
  | x :: l => by
    rw [List.filter_cons, List.find?_cons]
    cases hq : q x with
    | true => rw [if_pos rfl]; rfl
    | false => rw [if_neg Bool.false_ne_true]; exact find_head
theorem ws_two : f2N.all (fun f => (wsN f).length == 2 && (wsN f).all (fun i => decide (i < 6) && decide (2 ^ i ≤ f))) = true := by decide +kernel
def tb (x i : Nat) : Bool := bitN x i == 1
structure Apart (n : Nat) (cs : List Nat) : Prop where
  len : cs.length = 2 ^ n
  ap : ∀ v, v < 2 ^ n → ∀ w, w < 2 ^ n → v ≠ w → (v ^^^ w) &&& (cs.getD v 0 ^^^ cs.getD w 0) ≠ 0
theorem and_mod {f : Nat} (hf : f < 64) (x : Nat) : x &&& f = (x % 64) &&& f := by
  have h := @Nat.and_mod_two_pow x f 6
  have h1 : f % 2 ^ 6 = f := Nat.mod_eq_of_lt hf
  have h2 : (x &&& f) % 2 ^ 6 = x &&& f := Nat.mod_eq_of_lt (Nat.lt_of_le_of_lt Nat.and_le_right hf)
  rw [h1, h2] at h
  exact h
theorem bit_mod {i : Nat} (hi : i < 6) (x : Nat) : bitN x i = bitN (x % 64) i := by
  unfold bitN
  rw [Nat.and_one_is_mod, Nat.and_one_is_mod, Nat.shiftRight_eq_div_pow, Nat.shiftRight_eq_div_pow]
  have e : x % 64 / 2 ^ i = x / 2 ^ i % (64 / 2 ^ i) := by
    have : (64 : Nat) = 2 ^ i * (64 / 2 ^ i) := by
      have : ∀ i, i < 6 → (64 : Nat) = 2 ^ i * (64 / 2 ^ i) := by decide
      exact this i hi
    conv => lhs; rw [this]
    rw [Nat.mod_mul_right_div_self]
  rw [e, Nat.mod_mod_of_dvd]
  have : ∀ i, i < 6 → (2 : Nat) ∣ 64 / 2 ^ i := by decide
  exact this i hi
theorem two_tab : f2N.all (fun f => match wsN f with
  | [i, j] => decide (i < 6) && decide (j < 6) && (List.range 64).all fun x => ((x &&& f == 0) == (!tb x i && !tb x j)) && ((x &&& f == f) == (tb x i && tb x j)) && ((x &&& 2 ^ i == 0) == !tb x i) && ((x &&& 2 ^ j == 0) == !tb x j) && decide (f < 64)
  | _ => false) = true := by decide +kernel
theorem cor_tab : (tfN 6).all (fun p => match cN p with
  | [a, b, c, d] => (a ^^^ b == 2 ^ (wsN p.1).getD 0 0) && (c ^^^ d == 2 ^ (wsN p.1).getD 0 0) && (a ^^^ c == 2 ^ (wsN p.1).getD 1 0) && (b ^^^ d == 2 ^ (wsN p.1).getD 1 0) && (a ^^^ d == p.1) && (b ^^^ c == p.1) && (popN (a ^^^ b) == 1) && (popN (c ^^^ d) == 1) && (popN (a ^^^ c) == 1) && (popN (b ^^^ d) == 1) && (popN (a ^^^ d) == 2) && (popN (b ^^^ c) == 2) && (p.2 + p.1 - 2 ^ (wsN p.1).getD 0 0 == c) && (p.2 + p.1 - 2 ^ (wsN p.1).getD 1 0 == b) && (a == p.2) && decide (p.2 + p.1 < 64) && decide (b < d) && decide (c < d) && (d == p.2 + p.1)
  | _ => false) = true := by decide +kernel
theorem pop_comm (x y : Nat) : popN (x ^^^ y) = popN (y ^^^ x) := by rw [Nat.xor_comm]
theorem pop_self (x : Nat) : popN (x ^^^ x) = 0 := by rw [Nat.xor_self]; rfl
theorem tb_xor (x y i : Nat) : tb (x ^^^ y) i = (tb x i != tb y i) := by
  unfold tb
  rw [bit_xor]
  have k : ∀ x, x < 2 → ∀ y, y < 2 → ((x + y) % 2 == 1) = ((x == 1) != (y == 1)) := by decide
  exact k _ (bit_le _ _) _ (bit_le _ _)
theorem find_two (q : Nat → Bool) (i j : Nat) : ([i, j].find? q).isSome = (q i || q j) := by
  rw [List.find?_cons, List.find?_cons]
  cases q i <;> cases q j <;> rfl
theorem fine_core (c0 c1 c2 c3 : Nat) (q0 q1 : Nat → Bool) (a0 b0 a1 b1 a2 b2 a3 b3 : Bool) (h0 : q0 c0 = (!a0 && !b0)) (h1 : q0 c1 = (!a1 && !b1)) (h2 : q0 c2 = (!a2 && !b2)) (h3 : q0 c3 = (!a3 && !b3))
    (k0 : q1 c0 = (a0 && b0)) (k1 : q1 c1 = (a1 && b1)) (k2 : q1 c2 = (a2 && b2)) (k3 : q1 c3 = (a3 && b3)) (e1 : (a0 != a1) = true) (e2 : (a2 != a3) = true) (e3 : (b0 != b2) = true) (e4 : (b1 != b3) = true) (e5 : (a0 != a3 || b0 != b3) = true) (e6 : (a1 != a2 || b1 != b2) = true)
    (p01 : popN (c0 ^^^ c1) = 1) (p23 : popN (c2 ^^^ c3) = 1) (p02 : popN (c0 ^^^ c2) = 1) (p13 : popN (c1 ^^^ c3) = 1) (p03 : popN (c0 ^^^ c3) = 2) (p12 : popN (c1 ^^^ c2) = 2) :
    ∃ l h, [c0, c1, c2, c3].find? q0 = some l ∧ [c0, c1, c2, c3].find? q1 = some h ∧ (popN (l ^^^ h) == 1) = ((a0 != a2) || (b0 != b1)) := by
  have p10 := (pop_comm c1 c0).trans p01
  have p32 := (pop_comm c3 c2).trans p23
  have p20 := (pop_comm c2 c0).trans p02
  have p31 := (pop_comm c3 c1).trans p13
  have p30 := (pop_comm c3 c0).trans p03
  have p21 := (pop_comm c2 c1).trans p12
  cases a0 <;> cases a1 <;> first | exact absurd e1 (by decide) | skip
  all_goals (cases a2 <;> cases a3 <;> first | exact absurd e2 (by decide) | skip)
  all_goals (cases b0 <;> cases b2 <;> first | exact absurd e3 (by decide) | skip)
  all_goals (cases b1 <;> cases b3 <;> first | exact absurd e4 (by decide) | exact absurd e5 (by decide) | exact absurd e6 (by decide) | skip)
  all_goals (simp only [List.find?_cons, h0, h1, h2, h3, k0, k1, k2, k3, Bool.not_true, Bool.not_false, Bool.and_true, Bool.and_false, Bool.true_and, Bool.false_and]; first | exact ⟨_, _, rfl, rfl, by simp only [p01, p23, p02, p13, p03, p12, p10, p32, p20, p31, p30, p21]; decide⟩)
theorem fine_of {n : Nat} {cs : List Nat} {p : Nat × Nat} (A : Apart n cs) (hn : n ≤ 6) (hp : p ∈ tfN n) : p ∈ tfN 6 ∧ Fine cs p := by
  obtain ⟨⟨h1, h2⟩, h3, h4⟩ := tf_mem hp
  have hle : 2 ^ n ≤ 2 ^ 6 := Nat.pow_le_pow_right (by decide) hn
  have hp6 : p ∈ tfN 6 := List.mem_flatMap.mpr ⟨p.1, List.mem_filter.mpr ⟨List.mem_range.mpr (by omega), by simp [h1]⟩, List.mem_map.mpr ⟨p.2, List.mem_filter.mpr ⟨List.mem_range.mpr (by omega), by simp [h4]⟩, rfl⟩⟩
  refine ⟨hp6, ?_⟩
  have t1 := List.all_eq_true.mp two_tab p.1 (f2_mem hp6)
  have t2 := List.all_eq_true.mp cor_tab p hp6
  match hw : wsN p.1, hc : cN p, t1, t2 with
  | [i, j], [a, b, c, d], t1, t2 =>
    simp only [List.getD_cons_zero, List.getD_cons_succ, Bool.and_eq_true, beq_iff_eq, decide_eq_true_eq, List.all_eq_true, List.mem_range] at t1 t2
    obtain ⟨⟨hi, hj⟩, tx⟩ := t1
    obtain ⟨⟨⟨⟨⟨⟨⟨⟨⟨⟨⟨⟨⟨⟨⟨⟨⟨⟨x01, x23⟩, x02⟩, x13⟩, x03⟩, x12⟩, p01⟩, p23⟩, p02⟩, p13⟩, p03⟩, p12⟩, y2⟩, y1⟩, ya⟩, ylt⟩, ybd⟩, ycd⟩, yd⟩ := t2
    have f64 : p.1 < 64 := (tx 0 (by decide)).2
    have m64 : ∀ x : Nat, x % 64 < 64 := fun x => Nat.mod_lt _ (by decide)
    have tbm : ∀ i, i < 6 → ∀ x, tb (x % 64) i = tb x i := fun i hi x => by unfold tb; rw [← bit_mod hi]
    have P : ∀ i, i < 6 → 2 ^ i < 64 := by decide
    have E0 : ∀ x, (x &&& p.1 == 0) = (!tb x i && !tb x j) := fun x => by
      rw [and_mod f64, ← tbm i hi x, ← tbm j hj x]
      exact (tx _ (m64 x)).1.1.1.1
    have E1 : ∀ x, (x &&& p.1 == p.1) = (tb x i && tb x j) := fun x => by
      rw [and_mod f64, ← tbm i hi x, ← tbm j hj x]
      exact (tx _ (m64 x)).1.1.1.2
    have Ei : ∀ x, 2 ^ i &&& x ≠ 0 → tb x i = true := fun x hx => by
      have := (tx _ (m64 x)).1.1.2
      rw [← and_mod (P i hi), tbm i hi] at this
      rw [Nat.and_comm] at hx
      have e : (x &&& 2 ^ i == 0) = false := by simpa using hx
      rw [e] at this
      simpa using this.symm
    have Ej : ∀ x, 2 ^ j &&& x ≠ 0 → tb x j = true := fun x hx => by
      have := (tx _ (m64 x)).1.2
      rw [← and_mod (P j hj), tbm j hj] at this
      rw [Nat.and_comm] at hx
      have e : (x &&& 2 ^ j == 0) = false := by simpa using hx
      rw [e] at this
      simpa using this.symm
    have Ef : ∀ x, p.1 &&& x ≠ 0 → (tb x i || tb x j) = true := fun x hx => by
      rw [Nat.and_comm] at hx
      have e : (x &&& p.1 == 0) = false := by simpa using hx
      rw [E0] at e
      cases hti : tb x i with
      | true => rfl
      | false =>
        cases htj : tb x j with
        | true => rfl
        | false => rw [hti, htj] at e; cases e
    have dlt : d < 2 ^ n := by
      rw [yd]
      have h5 := nat_or_add_and p.2 p.1
      rw [h4] at h5
      have := Nat.or_lt_two_pow h3 h2
      omega
    have alt : a < 2 ^ n := by omega
    have blt : b < 2 ^ n := by omega
    have clt : c < 2 ^ n := by omega
    have ne_of : ∀ {x y k : Nat}, x ^^^ y = k → 0 < k → x ≠ y := fun h hk e => by
      rw [e, Nat.xor_self] at h
      omega
    have pi : 0 < 2 ^ i := Nat.two_pow_pos i
    have pj : 0 < 2 ^ j := Nat.two_pow_pos j
    have pf : 0 < p.1 := by
      rcases Nat.eq_zero_or_pos p.1 with z | z
      · rw [z] at h1; cases h1
      · exact z
    have r01 := A.ap a alt b blt (ne_of x01 pi)
    have r23 := A.ap c clt d dlt (ne_of x23 pi)
    have r02 := A.ap a alt c clt (ne_of x02 pj)
    have r13 := A.ap b blt d dlt (ne_of x13 pj)
    have r03 := A.ap a alt d dlt (ne_of x03 pf)
    have r12 := A.ap b blt c clt (ne_of x12 pf)
    rw [x01] at r01
    rw [x23] at r23
    rw [x02] at r02
    rw [x13] at r13
    rw [x03] at r03
    rw [x12] at r12
    have s01 := Ei _ r01
    have s23 := Ei _ r23
    have s02 := Ej _ r02
    have s13 := Ej _ r13
    have s03 := Ef _ r03
    have s12 := Ef _ r12
    rw [tb_xor] at s01 s23 s02 s13
    rw [tb_xor, tb_xor] at s03 s12
    obtain ⟨l, h, hl, hh, hb⟩ := fine_core a b c d (fun v => cs.getD v 0 &&& p.1 == 0) (fun v => cs.getD v 0 &&& p.1 == p.1) _ _ _ _ _ _ _ _ (E0 _) (E0 _) (E0 _) (E0 _) (E1 _) (E1 _) (E1 _) (E1 _) s01 s23 s02 s13 s03 s12 p01 p23 p02 p13 p03 p12
    have hl' : nameN cs p 0 = some l := by unfold nameN; rw [hc]; exact hl
    have hh' : nameN cs p p.1 = some h := by unfold nameN; rw [hc]; exact hh
    refine ⟨fun x hx => ?_, ⟨l, hl'⟩, ⟨h, hh'⟩, ?_⟩
    · rw [hc] at hx
      rw [A.len]
      simp only [List.mem_cons, List.not_mem_nil, or_false] at hx
      rcases hx with rfl | rfl | rfl | rfl <;> assumption
    · have hbow : isBowN cs p = (popN (l ^^^ h) == 1) := by unfold isBowN; rw [hl', hh']
      rw [hbow, hb]
      unfold wayN
      rw [hw, find_two, y2, y1, ← ya]
      have u1 := tb_xor (cs.getD a 0) (cs.getD c 0) i
      have u2 := tb_xor (cs.getD a 0) (cs.getD b 0) j
      unfold tb at u1 u2 ⊢
      rw [u1, u2]
def inN (f c : Nat) (p : Nat × Nat) : Bool := (p.1 - (p.1 &&& f) == 0) && (p.2 - (p.2 &&& f) == c)
theorem or_eq (x f : Nat) : decide (x ||| f = f) = (x - (x &&& f) == 0) := by
  have h1 := nat_or_add_and x f
  have h2 : x &&& f ≤ x := Nat.and_le_left
  by_cases h : x ||| f = f
  · rw [decide_eq_true h]
    symm
    rw [beq_iff_eq]
    omega
  · rw [decide_eq_false h]
    symm
    rw [beq_eq_false_iff_ne]
    omega
def longN (n : Nat) : List Nat := (List.range (2 ^ n)).map fun v => v ^^^ (v >>> 1) ^^^ (v >>> 2) ^^^ (v >>> 3) ^^^ (v >>> 4) ^^^ (v >>> 5)
theorem long_ap : (List.range 7).all (fun n => (List.range (2 ^ n)).all fun v => (List.range (2 ^ n)).all fun w => v == w || (v ^^^ w) &&& ((longN n).getD v 0 ^^^ (longN n).getD w 0) != 0) = true := by decide +kernel
theorem getD_map {f : Nat → Nat} {cs : List Nat} {v : Nat} (h : v < cs.length) : (cs.map f).getD v 0 = f (cs.getD v 0) := by
  rw [List.getD_eq_getElem?_getD, List.getD_eq_getElem?_getD, List.getElem?_map, List.getElem?_eq_getElem h]
  rfl
theorem turn_apart {n : Nat} {cs : List Nat} (A : Apart n cs) (k : Nat) : Apart n (cs.map fun x => x ^^^ k) := by
  refine ⟨by rw [List.length_map]; exact A.len, fun v hv w hw hne => ?_⟩
  rw [getD_map (by rw [A.len]; exact hv), getD_map (by rw [A.len]; exact hw)]
  have e : (cs.getD v 0 ^^^ k) ^^^ (cs.getD w 0 ^^^ k) = cs.getD v 0 ^^^ cs.getD w 0 := by
    rw [Nat.xor_assoc, Nat.xor_comm k, Nat.xor_assoc, Nat.xor_self, Nat.xor_zero]
  rw [e]
  exact A.ap v hv w hw hne
theorem long_apart {n : Nat} (hn : n ≤ 6) : Apart n (longN n) := by
  refine ⟨by unfold longN; rw [List.length_map, List.length_range], fun v hv w hw hne => ?_⟩
  have h1 := List.all_eq_true.mp long_ap n (List.mem_range.mpr (by omega))
  have h2 := List.all_eq_true.mp h1 v (List.mem_range.mpr hv)
  have h3 := List.all_eq_true.mp h2 w (List.mem_range.mpr hw)
  rcases Bool.or_eq_true_iff.mp h3 with h | h
  · exact absurd (by simpa using h) hne
  · simpa using h
def tied (lo up : List Nat) (v u : Nat) : Prop := (v ^^^ u) &&& (lo.getD v 0 ^^^ up.getD u 0) = 0
def joinN (lo up ls : List Nat) (us : List Bool) : List Nat :=
  (List.range lo.length).map (fun v => lo.getD v 0 + (if us.getD (ls.getD v 0) false then lo.length else 0)) ++ (List.range lo.length).map (fun v => up.getD v 0 + (if us.getD (ls.getD v 0) false then 0 else lo.length))
structure Lab (lo up ls : List Nat) : Prop where
  len : ls.length = lo.length
  lt : ∀ v, v < lo.length → ls.getD v 0 < lo.length
  tie : ∀ v u, v < lo.length → u < lo.length → tied lo up v u → ls.getD v 0 = ls.getD u 0
theorem bit_top {n x y : Nat} (hx : x < 2 ^ n) (k : Bool) : (x + if k then 2 ^ n else 0).testBit n = k := by
  cases k with
  | true => rw [if_pos rfl, Nat.add_comm, Nat.testBit_two_pow_add_eq, Nat.testBit_lt_two_pow hx]; rfl
  | false => simp [Nat.testBit_lt_two_pow hx]
theorem bit_low {n x i : Nat} (hi : i < n) (k : Bool) : (x + if k then 2 ^ n else 0).testBit i = x.testBit i := by
  cases k with
  | true => rw [if_pos rfl, Nat.add_comm, Nat.testBit_two_pow_add_gt hi]
  | false => simp
theorem and_ne {x y : Nat} : x &&& y ≠ 0 ↔ ∃ i, x.testBit i = true ∧ y.testBit i = true := by
  constructor
  · intro h
    obtain ⟨i, hi⟩ := Nat.exists_testBit_of_ne_zero h
    rw [Nat.testBit_and, Bool.and_eq_true] at hi
    exact ⟨i, hi⟩
  · rintro ⟨i, h1, h2⟩ h
    have := congrArg (fun z => Nat.testBit z i) h
    simp [h1, h2] at this
theorem not_ite (k : Bool) (a : Nat) : (if k then 0 else a) = (if !k then a else 0) := by cases k <;> rfl
theorem join_apart {n : Nat} {lo up ls : List Nat} {us : List Bool} (A : Apart n lo) (B : Apart n up) (L : Lab lo up ls) (hlo : ∀ v, v < 2 ^ n → lo.getD v 0 < 2 ^ n) (hup : ∀ v, v < 2 ^ n → up.getD v 0 < 2 ^ n) : Apart (n + 1) (joinN lo up ls us) ∧ ∀ v, v < 2 ^ (n + 1) → (joinN lo up ls us).getD v 0 < 2 ^ (n + 1) := by
  have ll := A.len
  have getL : ∀ v, v < 2 ^ n → (joinN lo up ls us).getD v 0 = lo.getD v 0 + (if us.getD (ls.getD v 0) false then 2 ^ n else 0) := fun v hv => by
    unfold joinN
    rw [List.getD_eq_getElem?_getD, List.getElem?_append_left (by rw [List.length_map, List.length_range, ll]; exact hv), List.getElem?_map, List.getElem?_range (by rw [ll]; exact hv), ll]
    rfl
  have getU : ∀ v, v < 2 ^ n → (joinN lo up ls us).getD (2 ^ n + v) 0 = up.getD v 0 + (if us.getD (ls.getD v 0) false then 0 else 2 ^ n) := fun v hv => by
    unfold joinN
    rw [List.getD_eq_getElem?_getD, List.getElem?_append_right (by rw [List.length_map, List.length_range, ll]; omega), List.length_map, List.length_range, ll, Nat.add_sub_cancel_left, List.getElem?_map, List.getElem?_range (by exact hv)]
    rfl
  have small : ∀ {x i : Nat}, x < 2 ^ n → x.testBit i = true → i < n := fun {x i} hx ht => by
    rcases Nat.lt_or_ge i n with h | h
    · exact h
    · rw [Nat.testBit_lt_two_pow (Nat.lt_of_lt_of_le hx (Nat.pow_le_pow_right (by decide) h))] at ht
      cases ht
  have xl : ∀ {x y : Nat}, x < 2 ^ n → y < 2 ^ n → x ^^^ y < 2 ^ n := fun hx hy => Nat.xor_lt_two_pow hx hy
  have hi : ∀ (v i : Nat), i < n → (2 ^ n + v).testBit i = v.testBit i := fun v i h => Nat.testBit_two_pow_add_gt h v
  have htop : ∀ v, v < 2 ^ n → (2 ^ n + v).testBit n = true := fun v hv => by rw [Nat.testBit_two_pow_add_eq, Nat.testBit_lt_two_pow hv]; rfl
  have p2 : 2 ^ (n + 1) = 2 ^ n + 2 ^ n := by rw [Nat.pow_succ]; omega
  have mix : ∀ v u, v < 2 ^ n → u < 2 ^ n → (v ^^^ (2 ^ n + u)) &&& ((joinN lo up ls us).getD v 0 ^^^ (joinN lo up ls us).getD (2 ^ n + u) 0) ≠ 0 := fun v u hv hu => by
    rw [getL v hv, getU u hu, not_ite]
    by_cases ht : tied lo up v u
    · have e := L.tie v u (by rw [ll]; exact hv) (by rw [ll]; exact hu) ht
      refine and_ne.mpr ⟨n, ?_, ?_⟩
      · rw [Nat.testBit_xor, htop u hu, Nat.testBit_lt_two_pow hv]; rfl
      · rw [Nat.testBit_xor, bit_top (y := 0) (hlo v hv), bit_top (y := 0) (hup u hu), e]
        cases us.getD (ls.getD u 0) false <;> rfl
    · obtain ⟨i, h1, h2⟩ := and_ne.mp ht
      have hin := small (xl hv hu) h1
      refine and_ne.mpr ⟨i, ?_, ?_⟩
      · rw [Nat.testBit_xor, hi u i hin, ← Nat.testBit_xor]; exact h1
      · rw [Nat.testBit_xor, bit_low hin, bit_low hin, ← Nat.testBit_xor]; exact h2
  refine ⟨⟨?_, fun v hv w hw hne => ?_⟩, fun v hv => ?_⟩
  · unfold joinN
    rw [List.length_append, List.length_map, List.length_map, List.length_range, ll, p2]
  · rw [p2] at hv hw
    by_cases v1 : v < 2 ^ n
    · by_cases w1 : w < 2 ^ n
      · obtain ⟨i, h1, h2⟩ := and_ne.mp (A.ap v v1 w w1 hne)
        have hin := small (xl v1 w1) h1
        rw [getL v v1, getL w w1]
        refine and_ne.mpr ⟨i, h1, ?_⟩
        rw [Nat.testBit_xor, bit_low hin, bit_low hin, ← Nat.testBit_xor]; exact h2
      · obtain ⟨u, rfl⟩ : ∃ u, w = 2 ^ n + u := ⟨w - 2 ^ n, by omega⟩
        exact mix v u v1 (by omega)
    · obtain ⟨u, rfl⟩ : ∃ u, v = 2 ^ n + u := ⟨v - 2 ^ n, by omega⟩
      by_cases w1 : w < 2 ^ n
      · have := mix w u w1 (by omega)
        rw [Nat.xor_comm (2 ^ n + u) w, Nat.xor_comm ((joinN lo up ls us).getD (2 ^ n + u) 0)]
        exact this
      · obtain ⟨x, rfl⟩ : ∃ x, w = 2 ^ n + x := ⟨w - 2 ^ n, by omega⟩
        have hu : u < 2 ^ n := by omega
        have hx : x < 2 ^ n := by omega
        obtain ⟨i, h1, h2⟩ := and_ne.mp (B.ap u hu x hx (by omega))
        have hin := small (xl hu hx) h1
        rw [getU u hu, getU x hx, not_ite, not_ite]
        refine and_ne.mpr ⟨i, ?_, ?_⟩
        · rw [Nat.testBit_xor, hi u i hin, hi x i hin, ← Nat.testBit_xor]; exact h1
        · rw [Nat.testBit_xor, bit_low hin, bit_low hin, ← Nat.testBit_xor]; exact h2
  · rw [p2] at hv
    by_cases v1 : v < 2 ^ n
    · rw [getL v v1, p2]
      have := hlo v v1
      split <;> omega
    · obtain ⟨u, rfl⟩ : ∃ u, v = 2 ^ n + u := ⟨v - 2 ^ n, by omega⟩
      rw [getU u (by omega), p2]
      have := hup u (by omega)
      split <;> omega
structure Q (m : Nat) (ls : List Nat) : Prop where
  len : ls.length = m
  lt : ∀ v, v < m → ls.getD v 0 < m
def mrg (a c : Nat) (ls : List Nat) : List Nat := ls.map fun x => if x = c then a else x
theorem mrg_at {a c : Nat} {ls : List Nat} {v : Nat} (h : v < ls.length) : (mrg a c ls).getD v 0 = if ls.getD v 0 = c then a else ls.getD v 0 := getD_map (f := fun x => if x = c then a else x) h
end PL
/-! plain facts about cubes, 2: good ones, orders, faces -/
namespace PL
open PySem PySem.Spec PyProof.Rows L2
structure Good (n : Nat) (cs : List Nat) : Prop where
  ap : Apart n cs
  lt : ∀ v, v < 2 ^ n → cs.getD v 0 < 2 ^ n
theorem turn_good {n : Nat} {cs : List Nat} (G : Good n cs) {k : Nat} (hk : k < 2 ^ n) : Good n (cs.map fun x => x ^^^ k) := ⟨turn_apart G.ap k, fun v hv => by
  rw [getD_map (by rw [G.ap.len]; exact hv)]
  exact Nat.xor_lt_two_pow (G.lt v hv) hk⟩
theorem tbit (v i : Nat) : decide (v >>> i &&& 1 = 1) = v.testBit i := by
  rw [Nat.testBit, Nat.and_comm 1]
  have : v >>> i &&& 1 < 2 := by rw [Nat.and_one_is_mod]; exact Nat.mod_lt _ (by decide)
  have k : ∀ x, x < 2 → decide (x = 1) = (x != 0) := by decide
  exact k _ this
theorem pw_bit : ∀ (S : List Nat), S.Nodup → ∀ j, ((S.map (2 ^ ·)).sum).testBit j = decide (j ∈ S)
  | [], _, j => by simp
  | a :: S, h, j => by
    obtain ⟨h1, h2⟩ := List.nodup_cons.mp h
    have ih := pw_bit S h2
    have hz : 2 ^ a &&& (S.map (2 ^ ·)).sum = 0 := by
      apply Nat.eq_of_testBit_eq
      intro i
      rw [Nat.testBit_and, ih, Nat.testBit_two_pow, Nat.zero_testBit]
      by_cases e : a = i
      · subst e; simp [h1]
      · simp [e]
    have ho := nat_or_add_and (2 ^ a) (S.map (2 ^ ·)).sum
    rw [hz, Nat.add_zero] at ho
    rw [List.map_cons, List.sum_cons, ← ho, Nat.testBit_or, ih, Nat.testBit_two_pow]
    by_cases e : a = j
    · subst e; simp
    · have e' : ¬ j = a := fun x => e x.symm
      simp [e, e', List.mem_cons]
def ledN (o : List Nat) (v : Nat) : Nat := (((List.range o.length).filter fun i => v.testBit i).map fun i => 2 ^ o.getD i 0).sum
structure Ord (n : Nat) (o : List Nat) : Prop where
  len : o.length = n
  nd : o.Nodup
  lt : ∀ i, i < n → o.getD i 0 < n
  sur : ∀ j, j < n → ∃ i, i < n ∧ o.getD i 0 = j
theorem ord_perm {n : Nat} {o : List Nat} (h : o.Perm (List.range n)) : Ord n o := by
  have hl : o.length = n := by rw [h.length_eq, List.length_range]
  refine ⟨hl, h.nodup_iff.mpr List.nodup_range, fun i hi => ?_, fun j hj => ?_⟩
  · have : o.getD i 0 ∈ o := by rw [List.getD_eq_getElem?_getD, List.getElem?_eq_getElem (by omega)]; exact List.getElem_mem _
    exact List.mem_range.mp (h.mem_iff.mp this)
  · obtain ⟨i, hi, e⟩ := List.getElem_of_mem (h.mem_iff.mpr (List.mem_range.mpr hj))
    exact ⟨i, by omega, by rw [List.getD_eq_getElem?_getD, List.getElem?_eq_getElem hi]; exact e⟩
theorem Ord.inj {n : Nat} {o : List Nat} (h : Ord n o) {i j : Nat} (hi : i < n) (hj : j < n) (e : o.getD i 0 = o.getD j 0) : i = j := by
  have hl := h.len
  rw [List.getD_eq_getElem?_getD, List.getD_eq_getElem?_getD, List.getElem?_eq_getElem (by omega), List.getElem?_eq_getElem (by omega)] at e
  have hp := List.pairwise_iff_getElem.mp h.nd
  rcases Nat.lt_trichotomy i j with c | c | c
  · exact absurd e (hp i j (by omega) (by omega) c)
  · exact c
  · exact absurd e.symm (hp j i (by omega) (by omega) c)
theorem led_bit {n : Nat} {o : List Nat} (h : Ord n o) (v : Nat) {i : Nat} (hi : i < n) : (ledN o v).testBit (o.getD i 0) = v.testBit i := by
  unfold ledN
  have nd : (((List.range o.length).filter fun i => v.testBit i).map fun i => o.getD i 0).Nodup := by
    refine List.pairwise_map.mpr (List.Pairwise.imp_of_mem ?_ (List.Pairwise.filter _ List.nodup_range))
    intro a b ha hb hne e
    have ha := List.mem_range.mp (List.mem_filter.mp ha).1
    have hb := List.mem_range.mp (List.mem_filter.mp hb).1
    rw [h.len] at ha hb
    exact hne (h.inj ha hb e)
  have := pw_bit _ nd (o.getD i 0)
  rw [List.map_map] at this
  refine this.trans ?_
  cases hv : v.testBit i with
  | true => exact decide_eq_true (List.mem_map.mpr ⟨i, List.mem_filter.mpr ⟨List.mem_range.mpr (by rw [h.len]; exact hi), hv⟩, rfl⟩)
  | false =>
    refine decide_eq_false fun hm => ?_
    obtain ⟨j, hj, e⟩ := List.mem_map.mp hm
    obtain ⟨hj1, hj2⟩ := List.mem_filter.mp hj
    have hj1 := List.mem_range.mp hj1
    rw [h.len] at hj1
    have := h.inj hj1 hi e
    subst this
    rw [hv] at hj2
    cases hj2
theorem bits_lt {n x : Nat} (h : ∀ j, n ≤ j → x.testBit j = false) : x < 2 ^ n := Nat.lt_pow_two_of_testBit x h
theorem led_lt {n : Nat} {o : List Nat} (h : Ord n o) (v : Nat) : ledN o v < 2 ^ n := by
  refine bits_lt fun j hj => ?_
  unfold ledN
  have nd : (((List.range o.length).filter fun i => v.testBit i).map fun i => o.getD i 0).Nodup := by
    refine List.pairwise_map.mpr (List.Pairwise.imp_of_mem ?_ (List.Pairwise.filter _ List.nodup_range))
    intro a b ha hb hne e
    have ha := List.mem_range.mp (List.mem_filter.mp ha).1
    have hb := List.mem_range.mp (List.mem_filter.mp hb).1
    rw [h.len] at ha hb
    exact hne (h.inj ha hb e)
  have := pw_bit _ nd j
  rw [List.map_map] at this
  refine this.trans (decide_eq_false fun hm => ?_)
  obtain ⟨i, hi, e⟩ := List.mem_map.mp hm
  have hi := List.mem_range.mp (List.mem_filter.mp hi).1
  rw [h.len] at hi
  have := h.lt i hi
  omega
theorem led_inj {n : Nat} {o : List Nat} (h : Ord n o) {v w : Nat} (hv : v < 2 ^ n) (hw : w < 2 ^ n) (e : ledN o v = ledN o w) : v = w := by
  apply Nat.eq_of_testBit_eq
  intro i
  by_cases hi : i < n
  · rw [← led_bit h v hi, ← led_bit h w hi, e]
  · have hp : 2 ^ n ≤ 2 ^ i := Nat.pow_le_pow_right (by decide) (by omega)
    rw [Nat.testBit_lt_two_pow (by omega), Nat.testBit_lt_two_pow (by omega)]
theorem led_sur {n : Nat} {o : List Nat} (h : Ord n o) {w : Nat} (hw : w < 2 ^ n) : ∃ v, v < 2 ^ n ∧ ledN o v = w := by
  have nd : ((List.range n).filter fun i => w.testBit (o.getD i 0)).Nodup := List.Pairwise.filter _ List.nodup_range
  have hb := pw_bit _ nd
  refine ⟨(((List.range n).filter fun i => w.testBit (o.getD i 0)).map (2 ^ ·)).sum, bits_lt fun j hj => ?_, ?_⟩
  · rw [hb]
    exact decide_eq_false fun hm => by
      have := List.mem_range.mp (List.mem_filter.mp hm).1
      omega
  · apply Nat.eq_of_testBit_eq
    intro j
    by_cases hj : j < n
    · obtain ⟨i, hi, rfl⟩ := h.sur j hj
      rw [led_bit h _ hi, hb]
      cases hwi : w.testBit (o.getD i 0) with
      | true => exact decide_eq_true (List.mem_filter.mpr ⟨List.mem_range.mpr hi, hwi⟩)
      | false =>
        refine decide_eq_false fun hm => ?_
        have h2 := (List.mem_filter.mp hm).2
        rw [hwi] at h2
        cases h2
    · have hp : 2 ^ n ≤ 2 ^ j := Nat.pow_le_pow_right (by decide) (by omega)
      have := led_lt h (((List.range n).filter fun i => w.testBit (o.getD i 0)).map (2 ^ ·)).sum
      rw [Nat.testBit_lt_two_pow (by omega), Nat.testBit_lt_two_pow (by omega)]
theorem moved_good {n : Nat} {o cs fs : List Nat} {flip ways : Nat} (h : Ord n o) (G : Good n cs) (hf : flip < 2 ^ n) (hw : ways < 2 ^ n) (hl : fs.length = 2 ^ n) (ha : ∀ v, v < 2 ^ n → fs.getD (ledN o v ^^^ flip) 0 = ledN o (cs.getD v 0) ^^^ ways) : Good n fs := by
  have sur : ∀ c, c < 2 ^ n → ∃ v, v < 2 ^ n ∧ ledN o v ^^^ flip = c := fun c hc => by
    obtain ⟨v, hv, e⟩ := led_sur h (Nat.xor_lt_two_pow hc hf)
    exact ⟨v, hv, by rw [e, Nat.xor_assoc, Nat.xor_self, Nat.xor_zero]⟩
  refine ⟨⟨hl, fun c hc d hd hne => ?_⟩, fun c hc => ?_⟩
  · obtain ⟨v, hv, rfl⟩ := sur c hc
    obtain ⟨w, hw', rfl⟩ := sur d hd
    rw [ha v hv, ha w hw']
    have hvw : v ≠ w := fun e => hne (by rw [e])
    obtain ⟨i, h1, h2⟩ := and_ne.mp (G.ap.ap v hv w hw' hvw)
    have hi : i < n := by
      rcases Nat.lt_or_ge i n with hi | hi
      · exact hi
      · have hp : 2 ^ n ≤ 2 ^ i := Nat.pow_le_pow_right (by decide) hi
        rw [Nat.testBit_lt_two_pow (Nat.lt_of_lt_of_le (Nat.xor_lt_two_pow hv hw') hp)] at h1
        cases h1
    refine and_ne.mpr ⟨o.getD i 0, ?_, ?_⟩
    · rw [Nat.testBit_xor, Nat.testBit_xor, Nat.testBit_xor, led_bit h v hi, led_bit h w hi]
      rw [Nat.testBit_xor] at h1
      revert h1
      cases v.testBit i <;> cases w.testBit i <;> cases flip.testBit (o.getD i 0) <;> decide
    · rw [Nat.testBit_xor, Nat.testBit_xor, Nat.testBit_xor, led_bit h _ hi, led_bit h _ hi]
      rw [Nat.testBit_xor] at h2
      revert h2
      cases (cs.getD v 0).testBit i <;> cases (cs.getD w 0).testBit i <;> cases ways.testBit (o.getD i 0) <;> decide
  · obtain ⟨v, hv, rfl⟩ := sur c hc
    rw [ha v hv]
    exact Nat.xor_lt_two_pow (led_lt h _) hw
theorem erase_perm {α : Type} {l : List α} {r : Nat} (h : r < l.length) : ([l[r]] ++ l.eraseIdx r).Perm l := by
  rw [List.eraseIdx_eq_take_drop_succ]
  have e : l.take r ++ l[r] :: l.drop (r + 1) = l := by rw [← List.drop_eq_getElem_cons h, List.take_append_drop]
  have := (List.perm_middle (a := l[r]) (l₁ := l.take r) (l₂ := l.drop (r + 1))).symm
  rw [e] at this
  exact this
theorem sum_ite {α : Type} (q : α → Bool) : ∀ l : List α, (l.map fun x => if q x then 1 else 0).sum = (l.filter q).length
  | [] => rfl
  | x :: l => by
    rw [List.map_cons, List.sum_cons, sum_ite q l, List.filter_cons]
    cases q x with
    | true => rw [if_pos rfl, if_pos rfl, List.length_cons]; omega
    | false => rw [if_neg Bool.false_ne_true, if_neg Bool.false_ne_true]; omega
/-! ### lists without doubles -/
theorem nodup_perm : ∀ {l m : List Nat}, l.Nodup → (∀ x ∈ l, x ∈ m) → m.length ≤ l.length → l.Perm m
  | [], m, _, _, h => by
    have : m = [] := List.eq_nil_of_length_eq_zero (by simpa using h)
    rw [this]
  | x :: l, m, nd, hs, hl => by
    obtain ⟨h1, h2⟩ := List.nodup_cons.mp nd
    have hx := hs x (List.mem_cons_self ..)
    have p := List.perm_cons_erase hx
    refine (List.Perm.cons x (nodup_perm h2 (fun y hy => ?_) ?_)).trans p.symm
    · have hy' := p.mem_iff.mp (hs y (List.mem_cons_of_mem _ hy))
      rcases List.mem_cons.mp hy' with rfl | h
      · exact absurd hy h1
      · exact h
    · have := p.length_eq
      simp only [List.length_cons] at this hl
      omega
theorem map_nodup {α : Type} {f : α → Nat} : ∀ {l : List α}, l.Nodup → (∀ x ∈ l, ∀ y ∈ l, f x = f y → x = y) → (l.map f).Nodup
  | [], _, _ => List.nodup_nil
  | x :: l, nd, h => by
    obtain ⟨h1, h2⟩ := List.nodup_cons.mp nd
    refine List.nodup_cons.mpr ⟨fun hm => ?_, map_nodup h2 fun a ha b hb => h a (List.mem_cons_of_mem _ ha) b (List.mem_cons_of_mem _ hb)⟩
    obtain ⟨y, hy, e⟩ := List.mem_map.mp hm
    have := h y (List.mem_cons_of_mem _ hy) x (List.mem_cons_self ..) e
    subst this
    exact h1 hy
/-! ### faces -/
def subsN (f : Nat) : List Nat := (List.range 64).filter fun s => s &&& f == s
def cornN (p : Nat × Nat) : List Nat := (subsN p.1).map fun s => p.2 ||| s
structure Face (n : Nat) (p : Nat × Nat) : Prop where
  f : p.1 < 2 ^ n
  c : p.2 < 2 ^ n
  z : p.1 &&& p.2 = 0
theorem subs_nd (f : Nat) : (subsN f).Nodup := List.Pairwise.filter _ List.nodup_range
theorem subs_mem {f s : Nat} (h : s ∈ subsN f) : s &&& f = s := by simpa using (List.mem_filter.mp h).2
theorem mem_subs {f s : Nat} (hf : f < 64) (h : s &&& f = s) : s ∈ subsN f := List.mem_filter.mpr ⟨List.mem_range.mpr (by
  have : s ≤ f := by rw [← h]; exact Nat.and_le_right
  omega), by simpa using h⟩
theorem or_disj {c s f : Nat} (hz : f &&& c = 0) (hs : s &&& f = s) : c &&& s = 0 := by
  rw [← hs, Nat.and_comm s, ← Nat.and_assoc, Nat.and_comm c, hz, Nat.zero_and]
theorem corn_lt {n : Nat} {p : Nat × Nat} (F : Face n p) {v : Nat} (h : v ∈ cornN p) : v < 2 ^ n := by
  obtain ⟨s, hs, rfl⟩ := List.mem_map.mp h
  have h1 := subs_mem hs
  have : s ≤ p.1 := by rw [← h1]; exact Nat.and_le_right
  exact Nat.or_lt_two_pow F.c (Nat.lt_of_le_of_lt this F.f)
theorem or_inj {c s t f : Nat} (hz : f &&& c = 0) (hs : s &&& f = s) (ht : t &&& f = t) (e : c ||| s = c ||| t) : s = t := by
  have h1 := nat_or_add_and c s
  have h2 := nat_or_add_and c t
  rw [or_disj hz hs] at h1
  rw [or_disj hz ht] at h2
  omega
theorem corn_nd {n : Nat} {p : Nat × Nat} (F : Face n p) : (cornN p).Nodup := map_nodup (subs_nd p.1) fun s hs t ht e => or_inj F.z (subs_mem hs) (subs_mem ht) e
theorem xor_or {c s t f : Nat} (hz : f &&& c = 0) (hs : s &&& f = s) (ht : t &&& f = t) : (c ||| s) ^^^ (c ||| t) = s ^^^ t := by
  apply Nat.eq_of_testBit_eq
  intro i
  have a := congrArg (fun x => x.testBit i) hz
  have b := congrArg (fun x => x.testBit i) hs
  have d := congrArg (fun x => x.testBit i) ht
  simp only [Nat.testBit_and, Nat.zero_testBit] at a b d
  simp only [Nat.testBit_xor, Nat.testBit_or]
  revert a b d
  cases c.testBit i <;> cases s.testBit i <;> cases t.testBit i <;> cases f.testBit i <;> decide
/-- names of corners, in a face -/
theorem face_perm {n : Nat} {cs : List Nat} {p : Nat × Nat} (A : Apart n cs) (hn : n ≤ 6) (F : Face n p) : ((cornN p).map fun v => cs.getD v 0 &&& p.1).Perm (subsN p.1) := by
  have h64 : 2 ^ n ≤ 2 ^ 6 := Nat.pow_le_pow_right (by decide) hn
  refine nodup_perm (map_nodup (corn_nd F) fun v hv w hw e => ?_) (fun x hx => ?_) (by simp [cornN])
  · by_cases hne : v = w
    · exact hne
    · exfalso
      refine A.ap v (corn_lt F hv) w (corn_lt F hw) hne ?_
      obtain ⟨s, hs, rfl⟩ := List.mem_map.mp hv
      obtain ⟨t, ht, rfl⟩ := List.mem_map.mp hw
      rw [xor_or F.z (subs_mem hs) (subs_mem ht)]
      apply Nat.eq_of_testBit_eq
      intro i
      have a := congrArg (fun x => x.testBit i) e
      have b := congrArg (fun x => x.testBit i) (subs_mem hs)
      have d := congrArg (fun x => x.testBit i) (subs_mem ht)
      simp only [Nat.testBit_and] at a b d
      simp only [Nat.testBit_and, Nat.testBit_xor, Nat.zero_testBit]
      revert a b d
      cases s.testBit i <;> cases t.testBit i <;> cases p.1.testBit i <;> cases (cs.getD (p.2 ||| s) 0).testBit i <;> cases (cs.getD (p.2 ||| t) 0).testBit i <;> decide
  · obtain ⟨v, _, rfl⟩ := List.mem_map.mp hx
    exact mem_subs (Nat.lt_of_lt_of_le F.f h64) (by rw [Nat.and_assoc, Nat.and_self])
theorem filter_len {q : Nat → Bool} (f : Nat → Nat) (w : Nat) (hq : ∀ v, q v = (f v == w)) : ∀ l : List Nat, (l.filter q).length = (l.map f).count w
  | [] => rfl
  | v :: l => by
    rw [List.filter_cons, List.map_cons, List.count_cons, ← filter_len f w hq l, hq]
    cases f v == w <;> simp
theorem nd_count {x : Nat} : ∀ {l : List Nat}, l.Nodup → x ∈ l → l.count x = 1
  | y :: l, nd, h => by
    obtain ⟨h1, h2⟩ := List.nodup_cons.mp nd
    rw [List.count_cons]
    rcases List.mem_cons.mp h with rfl | h
    · rw [List.count_eq_zero.mpr h1]; simp
    · have hne : ¬ y = x := fun e => h1 (by rw [e]; exact h)
      rw [nd_count h2 h]; simp [hne]
/-- each name is had once -/
theorem named_one {n : Nat} {cs : List Nat} {p : Nat × Nat} (A : Apart n cs) (hn : n ≤ 6) (F : Face n p) {w : Nat} (hw : w &&& p.1 = w) : ∃ x, (cornN p).filter (fun v => cs.getD v 0 &&& p.1 == w) = [x] := by
  have h64 : 2 ^ n ≤ 2 ^ 6 := Nat.pow_le_pow_right (by decide) hn
  have hp := face_perm A hn F
  have hc : ((cornN p).filter (fun v => cs.getD v 0 &&& p.1 == w)).length = 1 := by
    rw [filter_len (fun v => cs.getD v 0 &&& p.1) w (fun _ => rfl), hp.count_eq]
    exact nd_count (subs_nd p.1) (mem_subs (Nat.lt_of_lt_of_le F.f h64) hw)
  exact List.length_eq_one_iff.mp hc
end PL
namespace Cw
open PySem PySem.Spec PyProof.Rows L2 PL
def q__law_size : wM.T Nat :=
 (wM.bind (wM.bind (wM.ret ()) fun a_1 => (wM.bind (wM.ret (40 : Nat)) fun a_2 => (drawW a_2))) fun way_3 =>
 (wM.bind (wM.bind (wM.ret way_3) fun r_4 => (wM.bind (wM.ret (6 : Nat)) fun r_5 => (wM.lift (some (decide (r_4 < r_5)))))) fun k_6 =>
 (if k_6 then (wM.bind (wM.bind (wM.ret (6 : Nat)) fun d_7 => (wM.bind (wM.ret (5 : Nat)) fun d_8 => (wM.bind (wM.ret (5 : Nat)) fun d_9 => (wM.bind (wM.ret (0 : Nat)) fun d_10 => (wM.bind (wM.ret (1 : Nat)) fun d_11 => (wM.bind (wM.ret (1 : Nat)) fun d_12 => (wM.ret [d_7, d_8, d_9, d_10, d_11, d_12]))))))) fun r_13 => (wM.bind (wM.ret way_3) fun r_14 => (wM.lift (ixO r_13 r_14)))) else (wM.bind (wM.bind (wM.ret way_3) fun r_15 => (wM.bind (wM.ret (13 : Nat)) fun r_16 => (wM.lift (some (decide (r_15 < r_16)))))) fun k_20 => if k_20 then (wM.ret (2 : Nat)) else (wM.bind (wM.bind (wM.ret way_3) fun r_17 => (wM.bind (wM.ret (27 : Nat)) fun r_18 => (wM.lift (some (decide (r_17 < r_18)))))) fun k_19 => if k_19 then (wM.ret (3 : Nat)) else (wM.ret (4 : Nat)))))))
def t__law_size : Wp Nat :=
 (wM.bind (drawW (40 : Nat)) fun way_3 =>
 (if (decide (way_3 < (6 : Nat))) then (wM.lift (ixO [(6 : Nat), (5 : Nat), (5 : Nat), (0 : Nat), (1 : Nat), (1 : Nat)] way_3)) else (if (decide (way_3 < (13 : Nat))) then (wM.ret (2 : Nat)) else (if (decide (way_3 < (27 : Nat))) then (wM.ret (3 : Nat)) else (wM.ret (4 : Nat))))))
theorem tq__law_size : @q__law_size = @t__law_size := rfl
def q__law_pick (some_0 : (List (List Nat))) : wM.T (List Nat) :=
 (wM.bind (wM.bind (wM.ret ()) fun a_2 => (wM.bind (wM.bind (wM.ret some_0) fun r_1 => (wM.lift (some (r_1).length))) fun a_3 => (drawW a_3))) fun r_5 => (wM.lift (ixO some_0 r_5)))
def t__law_pick (some_0 : (List (List Nat))) : Wp (List Nat) :=
 (wM.bind (drawW (some_0).length) fun z_4 =>
 (wM.lift (ixO some_0 z_4)))
theorem tq__law_pick : @q__law_pick = @t__law_pick := rfl
def q__law_order (n_0 : Nat) : wM.T (List Nat) :=
 (wM.bind (wM.bind (wM.bind (wM.ret n_0) fun r_1 => (wM.bind (wM.ret (0 : Nat)) fun r_2 => (wM.lift (some (decide (r_2 < r_1)))))) fun k_8 => if k_8 then (wM.bind (wM.bind (wM.ret ()) fun a_3 => (wM.bind (wM.ret (2 : Nat)) fun a_4 => (drawW a_4))) fun r_6 => (wM.bind (wM.ret (0 : Nat)) fun r_7 => (wM.lift (some (decide (r_6 = r_7)))))) else (wM.ret false)) fun k_9 =>
 (if k_9 then (wM.bind (wM.bind (wM.ret (1 : Nat)) fun r_13 => (wM.bind (wM.bind (wM.ret ()) fun a_10 => (wM.bind (wM.ret n_0) fun a_11 => (drawW a_11))) fun r_14 => (wM.lift (some (r_13 + r_14))))) fun step_15 =>
 (wM.bind (wM.bind (wM.bind (wM.ret n_0) fun r_16 => (wM.lift (rgO r_16))) fun l_23 => wM.bind (wM.lift (szO l_23)) fun l_24 => compT wM (fun x_17 => (wM.ret true)) (fun x_17 => (wM.bind (wM.bind (wM.bind (wM.ret x_17) fun r_18 => (wM.bind (wM.ret step_15) fun r_19 => (wM.lift (some (r_18 + r_19))))) fun r_20 => (wM.lift (some r_20))) fun r_21 => (wM.bind (wM.ret n_0) fun r_22 => (wM.lift (modO r_21 r_22))))) l_24) fun r_27 => (wM.lift (some r_27)))) else (wM.bind (wM.bind (wM.ret n_0) fun r_28 => (wM.lift (rgO r_28))) fun rest_29 =>
 (wM.bind (wM.ret ([] : (List Nat))) fun found_30 =>
 (wM.bind (wM.bind (wM.bind (wM.ret n_0) fun r_31 => (wM.lift (rgO r_31))) fun l_42 => foldT wM (fun (s_32 : ((List Nat) × (List Nat))) x_33 =>
 (wM.bind (wM.bind (wM.bind (wM.bind (wM.ret ()) fun a_35 => (wM.bind (wM.bind (wM.ret s_32.2) fun r_34 => (wM.lift (some (r_34).length))) fun a_36 => (drawW a_36))) fun r_37 => (wM.lift (popAtO s_32.2 r_37))) fun q_40 => wM.bind (wM.lift (pushO s_32.1 q_40.1)) fun z_41 => (wM.ret (q_40, z_41))) fun found_39 =>
 (wM.ret (found_39.2, found_39.1.2)))) l_42 (found_30, rest_29)) fun s_32 =>
 (wM.bind (wM.ret s_32.1) fun r_44 => (wM.lift (some r_44))))))))
def t__law_order (n_0 : Nat) : Wp (List Nat) :=
 (wM.bind (if (decide ((0 : Nat) < n_0)) then (wM.bind (drawW (2 : Nat)) fun z_5 =>
 (wM.ret (decide (z_5 = (0 : Nat))))) else (wM.ret false)) fun z_45 =>
 (if z_45 then (wM.bind (wM.bind (drawW n_0) fun z_12 =>
 (wM.ret ((1 : Nat) + z_12))) fun step_15 =>
 (wM.bind (wM.bind (wM.lift (rgO n_0)) fun z_25 =>
 (wM.bind (wM.lift (szO z_25)) fun l_24 =>
 (compT wM (fun x_17 => (wM.ret true)) (fun x_17 => (wM.lift (modO (x_17 + step_15) n_0))) l_24))) fun z_26 =>
 (wM.ret z_26))) else (wM.bind (wM.lift (rgO n_0)) fun rest_29 =>
 (wM.bind (wM.ret ([] : (List Nat))) fun found_30 =>
 (wM.bind (wM.bind (wM.lift (rgO n_0)) fun z_43 =>
 (foldT wM (fun (s_32 : ((List Nat) × (List Nat))) x_33 =>
 (wM.bind (wM.bind (wM.bind (drawW (s_32.2).length) fun z_38 =>
 (wM.lift (popAtO s_32.2 z_38))) fun q_40 =>
 (wM.bind (wM.lift (pushO s_32.1 q_40.1)) fun z_41 =>
 (wM.ret (q_40, z_41)))) fun found_39 =>
 (wM.ret (found_39.2, found_39.1.2)))) z_43 (found_30, rest_29))) fun s_32 =>
 (wM.ret s_32.1))))))
theorem tq__law_order : @q__law_order = @t__law_order := rfl
def q__law_ordered (arrows_0 : (List Nat)) (order_0 : (List Nat)) : oM.T (List Nat) :=
 (oM.bind (oM.bind (oM.ret (0 : Nat)) fun d_1 => (oM.ret [d_1])) fun table_6 =>
 (oM.bind (oM.bind (oM.bind (oM.ret (0 : Nat)) fun d_2 => (oM.ret [d_2])) fun r_4 => (oM.bind (oM.bind (oM.ret arrows_0) fun r_3 => (oM.lift (some (r_3).length))) fun r_5 => (oM.lift (repO r_4 r_5)))) fun found_7 =>
 (oM.bind (oM.bind (oM.ret order_0) fun l_22 => foldT oM (fun (s_8 : (List Nat)) x_9 =>
 (oM.bind (oM.bind (oM.ret s_8) fun r_19 => (oM.bind (oM.bind (oM.ret s_8) fun l_16 => oM.bind (oM.lift (szO l_16)) fun l_17 => compT oM (fun x_10 => (oM.ret true)) (fun x_10 => (oM.bind (oM.ret x_10) fun r_14 => (oM.bind (oM.bind (oM.ret ()) fun r_11 => (oM.bind (oM.ret x_9) fun r_12 => (oM.lift (if r_12 ≤ 1000000 then some (2 ^ r_12) else none)))) fun r_15 => (oM.lift (some (r_14 ||| r_15)))))) l_17) fun r_20 => (oM.lift (catO r_19 r_20)))) fun table_21 =>
 (oM.ret table_21))) l_22 table_6) fun s_8 =>
 (oM.bind (oM.bind (oM.bind (oM.ret arrows_0) fun r_23 => (oM.ret (enumN r_23))) fun l_33 => foldT oM (fun (s_24 : (List Nat)) x_25 =>
 (oM.bind (oM.bind (oM.bind (oM.ret x_25.2) fun r_26 => (oM.lift (ixO s_8 r_26))) fun r_31 => (oM.bind (oM.bind (oM.ret x_25.1) fun r_27 => (oM.lift (ixO s_8 r_27))) fun r_32 => (oM.lift (setO s_24 r_32 r_31)))) fun found_28 =>
 (oM.ret found_28))) l_33 found_7) fun s_24 =>
 (oM.bind (oM.ret s_24) fun r_34 => (oM.lift (some r_34)))))))
def t__law_ordered (arrows_0 : (List Nat)) (order_0 : (List Nat)) : Option (List Nat) :=
 (Option.bind (some [(0 : Nat)]) fun table_6 =>
 (Option.bind (repO [(0 : Nat)] (arrows_0).length) fun found_7 =>
 (Option.bind (foldT oM (fun (s_8 : (List Nat)) x_9 =>
 (Option.bind (Option.bind (Option.bind (szO s_8) fun l_17 =>
 (compT oM (fun x_10 => (some true)) (fun x_10 => (Option.bind (pow2O x_9) fun z_13 =>
 (some (x_10 ||| z_13)))) l_17)) fun z_18 =>
 (catO s_8 z_18)) fun table_21 =>
 (some table_21))) order_0 table_6) fun s_8 =>
 (Option.bind (foldT oM (fun (s_24 : (List Nat)) x_25 =>
 (Option.bind (Option.bind (ixO s_8 x_25.2) fun z_29 =>
 (Option.bind (ixO s_8 x_25.1) fun z_30 =>
 (setO s_24 z_30 z_29))) fun found_28 =>
 (some found_28))) (enumN arrows_0) found_7) fun s_24 =>
 (some s_24)))))
theorem tq__law_ordered : @q__law_ordered = @t__law_ordered := rfl
def q__law_moved (arrows_0 : (List Nat)) (order_0 : (List Nat)) (corner_0 : Nat) : oM.T (List Nat) :=
 (oM.bind (oM.bind (oM.ret arrows_0) fun a_1 => (oM.bind (oM.ret order_0) fun a_2 => (t__law_ordered a_1 a_2))) fun found_3 =>
 (oM.bind (oM.bind (oM.bind (oM.bind (oM.ret found_3) fun r_4 => (oM.lift (some (r_4).length))) fun r_5 => (oM.lift (rgO r_5))) fun l_10 => oM.bind (oM.lift (szO l_10)) fun l_11 => compT oM (fun x_6 => (oM.ret true)) (fun x_6 => (oM.bind (oM.bind (oM.ret x_6) fun r_7 => (oM.bind (oM.ret corner_0) fun r_8 => (oM.lift (some (r_7 ^^^ r_8))))) fun r_9 => (oM.lift (ixO found_3 r_9)))) l_11) fun r_14 => (oM.lift (some r_14))))
def t__law_moved (arrows_0 : (List Nat)) (order_0 : (List Nat)) (corner_0 : Nat) : Option (List Nat) :=
 (Option.bind (t__law_ordered arrows_0 order_0) fun found_3 =>
 (Option.bind (Option.bind (rgO (found_3).length) fun z_12 =>
 (Option.bind (szO z_12) fun l_11 =>
 (compT oM (fun x_6 => (some true)) (fun x_6 => (ixO found_3 (x_6 ^^^ corner_0))) l_11))) fun z_13 =>
 (some z_13)))
theorem tq__law_moved : @q__law_moved = @t__law_moved := rfl
def q__law_merged (marks_0 : (List Nat)) (pairs_0 : (List (Nat × Nat))) : oM.T (List Nat) :=
 (oM.bind (oM.bind (oM.ret marks_0) fun r_1 => (oM.lift (some r_1))) fun found_2 =>
 (oM.bind (oM.bind (oM.ret pairs_0) fun l_19 => foldT oM (fun (s_3 : (List Nat)) x_4 =>
 (oM.bind (oM.bind (oM.ret x_4.1) fun r_5 => (oM.lift (ixO s_3 r_5))) fun kept_7 =>
 (oM.bind (oM.bind (oM.ret x_4.2) fun r_6 => (oM.lift (ixO s_3 r_6))) fun gone_8 =>
 (oM.bind (oM.bind (oM.ret kept_7) fun r_9 => (oM.bind (oM.ret gone_8) fun r_10 => (oM.lift (some (!decide (r_9 = r_10)))))) fun k_11 =>
 (if k_11 then (oM.bind (oM.bind (oM.ret s_3) fun l_16 => oM.bind (oM.lift (szO l_16)) fun l_17 => compT oM (fun x_12 => (oM.ret true)) (fun x_12 => (oM.bind (oM.bind (oM.ret x_12) fun r_13 => (oM.bind (oM.ret gone_8) fun r_14 => (oM.lift (some (decide (r_13 = r_14)))))) fun k_15 => if k_15 then (oM.ret kept_7) else (oM.ret x_12))) l_17) fun found_18 =>
 (oM.ret found_18)) else (oM.ret s_3)))))) l_19 found_2) fun s_3 =>
 (oM.ret s_3)))
def t__law_merged (marks_0 : (List Nat)) (pairs_0 : (List (Nat × Nat))) : Option (List Nat) :=
 (Option.bind (some marks_0) fun found_2 =>
 (Option.bind (foldT oM (fun (s_3 : (List Nat)) x_4 =>
 (Option.bind (ixO s_3 x_4.1) fun kept_7 =>
 (Option.bind (ixO s_3 x_4.2) fun gone_8 =>
 (if (!decide (kept_7 = gone_8)) then (Option.bind (Option.bind (szO s_3) fun l_17 =>
 (compT oM (fun x_12 => (some true)) (fun x_12 => (if (decide (x_12 = gone_8)) then (some kept_7) else (some x_12))) l_17)) fun found_18 =>
 (some found_18)) else (some s_3))))) pairs_0 found_2) fun s_3 =>
 (some s_3)))
theorem tq__law_merged : @q__law_merged = @t__law_merged := rfl
def q__law_class_turned (cube_0 : (List Nat)) (n_0 : Nat) : wM.T (List Nat) :=
 (wM.bind (wM.bind (wM.ret ()) fun r_4 => (wM.bind (wM.bind (wM.ret ()) fun a_1 => (wM.bind (wM.ret n_0) fun a_2 => (drawW a_2))) fun r_5 => (wM.lift (if r_5 ≤ 1000000 then some (2 ^ r_5) else none)))) fun bit_6 =>
 (wM.bind (wM.ret ([] : (List (Nat × Nat)))) fun found_7 =>
 (wM.bind (wM.bind (wM.bind (wM.bind (wM.ret cube_0) fun r_8 => (wM.lift (some (r_8).length))) fun r_9 => (wM.lift (rgO r_9))) fun l_41 => foldT wM (fun (s_10 : (List (Nat × Nat))) x_11 =>
 (wM.bind (wM.bind (wM.bind (wM.bind (wM.ret x_11) fun r_12 => (wM.bind (wM.ret (1 : Nat)) fun r_13 => (wM.lift (some (r_12 + r_13))))) fun r_15 => (wM.bind (wM.bind (wM.ret cube_0) fun r_14 => (wM.lift (some (r_14).length))) fun r_16 => (wM.lift (rg2O r_15 r_16)))) fun l_39 => foldT wM (fun (s_17 : (List (Nat × Nat))) x_18 =>
 (wM.bind (wM.bind (wM.bind (wM.bind (wM.ret x_11) fun r_19 => (wM.bind (wM.ret x_18) fun r_20 => (wM.lift (some (r_19 ^^^ r_20))))) fun r_28 => (wM.bind (wM.bind (wM.bind (wM.ret x_11) fun r_21 => (wM.lift (ixO cube_0 r_21))) fun r_25 => (wM.bind (wM.bind (wM.ret x_18) fun r_22 => (wM.lift (ixO cube_0 r_22))) fun r_26 => (wM.lift (some (r_25 ^^^ r_26))))) fun r_29 => (wM.lift (some (r_28 &&& r_29))))) fun r_31 => (wM.bind (wM.ret bit_6) fun r_32 => (wM.lift (some (decide (r_31 = r_32)))))) fun k_33 =>
 (if k_33 then (wM.bind (wM.bind (wM.bind (wM.ret x_11) fun d_34 => (wM.bind (wM.ret x_18) fun d_35 => (wM.ret (d_34, d_35)))) fun r_37 => (wM.lift (pushO s_17 r_37))) fun found_36 =>
 (wM.ret found_36)) else (wM.ret s_17)))) l_39 s_10) fun s_17 =>
 (wM.ret s_17))) l_41 found_7) fun s_10 =>
 (wM.bind (wM.bind (wM.ret s_10) fun r_54 => (wM.bind (wM.bind (wM.bind (wM.bind (wM.ret cube_0) fun r_43 => (wM.lift (some (r_43).length))) fun r_44 => (wM.lift (rgO r_44))) fun l_50 => wM.bind (wM.lift (szO l_50)) fun l_51 => compT wM (fun x_45 => (wM.ret true)) (fun x_45 => (wM.bind (wM.ret x_45) fun d_48 => (wM.bind (wM.bind (wM.ret x_45) fun r_46 => (wM.bind (wM.ret bit_6) fun r_47 => (wM.lift (some (r_46 ^^^ r_47))))) fun d_49 => (wM.ret (d_48, d_49))))) l_51) fun r_55 => (wM.lift (catO r_54 r_55)))) fun found_56 =>
 (wM.bind (wM.bind (wM.bind (wM.bind (wM.ret cube_0) fun r_57 => (wM.lift (some (r_57).length))) fun r_58 => (wM.lift (rgO r_58))) fun a_59 => (wM.bind (wM.ret found_56) fun a_60 => (wM.lift (t__law_merged a_59 a_60)))) fun marks_62 =>
 (wM.bind (wM.bind (wM.bind (wM.ret ()) fun a_64 => (wM.bind (wM.bind (wM.ret cube_0) fun r_63 => (wM.lift (some (r_63).length))) fun a_65 => (drawW a_65))) fun r_67 => (wM.lift (ixO marks_62 r_67))) fun mark_68 =>
 (wM.bind (wM.bind (wM.bind (wM.bind (wM.ret cube_0) fun r_69 => (wM.lift (some (r_69).length))) fun r_70 => (wM.lift (rgO r_70))) fun l_83 => wM.bind (wM.lift (szO l_83)) fun l_84 => compT wM (fun x_71 => (wM.ret true)) (fun x_71 => (wM.bind (wM.bind (wM.bind (wM.ret x_71) fun r_72 => (wM.lift (ixO marks_62 r_72))) fun r_74 => (wM.bind (wM.ret mark_68) fun r_75 => (wM.lift (some (decide (r_74 = r_75)))))) fun k_81 => if k_81 then (wM.bind (wM.bind (wM.ret x_71) fun r_76 => (wM.lift (ixO cube_0 r_76))) fun r_78 => (wM.bind (wM.ret bit_6) fun r_79 => (wM.lift (some (r_78 ^^^ r_79))))) else (wM.bind (wM.ret x_71) fun r_80 => (wM.lift (ixO cube_0 r_80))))) l_84) fun r_87 => (wM.lift (some r_87)))))))))
def t__law_class_turned (cube_0 : (List Nat)) (n_0 : Nat) : Wp (List Nat) :=
 (wM.bind (wM.bind (drawW n_0) fun z_3 =>
 (wM.lift (pow2O z_3))) fun bit_6 =>
 (wM.bind (wM.ret ([] : (List (Nat × Nat)))) fun found_7 =>
 (wM.bind (wM.bind (wM.lift (rgO (cube_0).length)) fun z_42 =>
 (foldT wM (fun (s_10 : (List (Nat × Nat))) x_11 =>
 (wM.bind (wM.bind (wM.lift (rg2O (x_11 + (1 : Nat)) (cube_0).length)) fun z_40 =>
 (foldT wM (fun (s_17 : (List (Nat × Nat))) x_18 =>
 (wM.bind (wM.bind (wM.bind (wM.bind (wM.lift (ixO cube_0 x_11)) fun z_23 =>
 (wM.bind (wM.lift (ixO cube_0 x_18)) fun z_24 =>
 (wM.ret (z_23 ^^^ z_24)))) fun z_27 =>
 (wM.ret ((x_11 ^^^ x_18) &&& z_27))) fun z_30 =>
 (wM.ret (decide (z_30 = bit_6)))) fun z_38 =>
 (if z_38 then (wM.bind (wM.lift (pushO s_17 (x_11, x_18))) fun found_36 =>
 (wM.ret found_36)) else (wM.ret s_17)))) z_40 s_10)) fun s_17 =>
 (wM.ret s_17))) z_42 found_7)) fun s_10 =>
 (wM.bind (wM.bind (wM.bind (wM.lift (rgO (cube_0).length)) fun z_52 =>
 (wM.bind (wM.lift (szO z_52)) fun l_51 =>
 (compT wM (fun x_45 => (wM.ret true)) (fun x_45 => (wM.ret (x_45, (x_45 ^^^ bit_6)))) l_51))) fun z_53 =>
 (wM.lift (catO s_10 z_53))) fun found_56 =>
 (wM.bind (wM.bind (wM.lift (rgO (cube_0).length)) fun z_61 =>
 (wM.lift (t__law_merged z_61 found_56))) fun marks_62 =>
 (wM.bind (wM.bind (drawW (cube_0).length) fun z_66 =>
 (wM.lift (ixO marks_62 z_66))) fun mark_68 =>
 (wM.bind (wM.bind (wM.lift (rgO (cube_0).length)) fun z_85 =>
 (wM.bind (wM.lift (szO z_85)) fun l_84 =>
 (compT wM (fun x_71 => (wM.ret true)) (fun x_71 => (wM.bind (wM.bind (wM.lift (ixO marks_62 x_71)) fun z_73 =>
 (wM.ret (decide (z_73 = mark_68)))) fun z_82 =>
 (if z_82 then (wM.bind (wM.lift (ixO cube_0 x_71)) fun z_77 =>
 (wM.ret (z_77 ^^^ bit_6))) else (wM.lift (ixO cube_0 x_71))))) l_84))) fun z_86 =>
 (wM.ret z_86))))))))
theorem tq__law_class_turned : @q__law_class_turned = @t__law_class_turned := rfl
def q__law_tied (below_0 : (List Nat)) (above_0 : (List Nat)) : oM.T (List (Nat × Nat)) :=
 (oM.bind (oM.ret ([] : (List (Nat × Nat)))) fun found_1 =>
 (oM.bind (oM.bind (oM.bind (oM.bind (oM.ret below_0) fun r_2 => (oM.lift (some (r_2).length))) fun r_3 => (oM.lift (rgO r_3))) fun l_51 => foldT oM (fun (s_4 : (List (Nat × Nat))) x_5 =>
 (oM.bind (oM.bind (oM.bind (oM.bind (oM.ret x_5) fun r_6 => (oM.bind (oM.ret (1 : Nat)) fun r_7 => (oM.lift (some (r_6 + r_7))))) fun r_9 => (oM.bind (oM.bind (oM.ret below_0) fun r_8 => (oM.lift (some (r_8).length))) fun r_10 => (oM.lift (rg2O r_9 r_10)))) fun l_49 => foldT oM (fun (s_11 : (List (Nat × Nat))) x_12 =>
 (oM.bind (oM.bind (oM.bind (oM.bind (oM.bind (oM.ret x_5) fun r_13 => (oM.bind (oM.ret x_12) fun r_14 => (oM.lift (some (r_13 ^^^ r_14))))) fun r_22 => (oM.bind (oM.bind (oM.bind (oM.ret x_5) fun r_15 => (oM.lift (ixO below_0 r_15))) fun r_19 => (oM.bind (oM.bind (oM.ret x_12) fun r_16 => (oM.lift (ixO above_0 r_16))) fun r_20 => (oM.lift (some (r_19 ^^^ r_20))))) fun r_23 => (oM.lift (some (r_22 &&& r_23))))) fun r_25 => (oM.bind (oM.ret (0 : Nat)) fun r_26 => (oM.lift (some (decide (r_25 = r_26)))))) fun k_41 => if k_41 then (oM.ret true) else (oM.bind (oM.bind (oM.bind (oM.ret x_5) fun r_27 => (oM.bind (oM.ret x_12) fun r_28 => (oM.lift (some (r_27 ^^^ r_28))))) fun r_36 => (oM.bind (oM.bind (oM.bind (oM.ret x_12) fun r_29 => (oM.lift (ixO below_0 r_29))) fun r_33 => (oM.bind (oM.bind (oM.ret x_5) fun r_30 => (oM.lift (ixO above_0 r_30))) fun r_34 => (oM.lift (some (r_33 ^^^ r_34))))) fun r_37 => (oM.lift (some (r_36 &&& r_37))))) fun r_39 => (oM.bind (oM.ret (0 : Nat)) fun r_40 => (oM.lift (some (decide (r_39 = r_40))))))) fun k_43 =>
 (if k_43 then (oM.bind (oM.bind (oM.bind (oM.ret x_5) fun d_44 => (oM.bind (oM.ret x_12) fun d_45 => (oM.ret (d_44, d_45)))) fun r_47 => (oM.lift (pushO s_11 r_47))) fun found_46 =>
 (oM.ret found_46)) else (oM.ret s_11)))) l_49 s_4) fun s_11 =>
 (oM.ret s_11))) l_51 found_1) fun s_4 =>
 (oM.ret s_4)))
def t__law_tied (below_0 : (List Nat)) (above_0 : (List Nat)) : Option (List (Nat × Nat)) :=
 (Option.bind (some ([] : (List (Nat × Nat)))) fun found_1 =>
 (Option.bind (Option.bind (rgO (below_0).length) fun z_52 =>
 (foldT oM (fun (s_4 : (List (Nat × Nat))) x_5 =>
 (Option.bind (Option.bind (rg2O (x_5 + (1 : Nat)) (below_0).length) fun z_50 =>
 (foldT oM (fun (s_11 : (List (Nat × Nat))) x_12 =>
 (Option.bind (Option.bind (Option.bind (Option.bind (Option.bind (ixO below_0 x_5) fun z_17 =>
 (Option.bind (ixO above_0 x_12) fun z_18 =>
 (some (z_17 ^^^ z_18)))) fun z_21 =>
 (some ((x_5 ^^^ x_12) &&& z_21))) fun z_24 =>
 (some (decide (z_24 = (0 : Nat))))) fun z_42 =>
 (if z_42 then (some true) else (Option.bind (Option.bind (Option.bind (ixO below_0 x_12) fun z_31 =>
 (Option.bind (ixO above_0 x_5) fun z_32 =>
 (some (z_31 ^^^ z_32)))) fun z_35 =>
 (some ((x_5 ^^^ x_12) &&& z_35))) fun z_38 =>
 (some (decide (z_38 = (0 : Nat))))))) fun z_48 =>
 (if z_48 then (Option.bind (pushO s_11 (x_5, x_12)) fun found_46 =>
 (some found_46)) else (some s_11)))) z_50 s_4)) fun s_11 =>
 (some s_11))) z_52 found_1)) fun s_4 =>
 (some s_4)))
theorem tq__law_tied : @q__law_tied = @t__law_tied := rfl
def q__law_joined (rec_0 : Nat → wM.T (List Nat)) (n_0 : Nat) : wM.T (List Nat) :=
 (wM.bind (wM.bind (wM.ret n_0) fun r_1 => (wM.bind (wM.ret (0 : Nat)) fun r_2 => (wM.lift (some (decide (r_1 = r_2)))))) fun k_3 =>
 (if k_3 then (wM.bind (wM.ret (0 : Nat)) fun d_4 => (wM.ret [d_4])) else (wM.bind (wM.bind (wM.bind (wM.ret n_0) fun r_5 => (wM.bind (wM.ret (3 : Nat)) fun r_6 => (wM.lift (some (decide (r_5 = r_6)))))) fun k_12 => if k_12 then (wM.bind (wM.bind (wM.ret ()) fun a_7 => (wM.bind (wM.ret (6 : Nat)) fun a_8 => (drawW a_8))) fun r_10 => (wM.bind (wM.ret (0 : Nat)) fun r_11 => (wM.lift (some (decide (r_10 = r_11)))))) else (wM.ret false)) fun k_13 =>
 (if k_13 then (wM.bind (wM.bind (wM.ret ()) fun a_41 => (wM.bind (wM.bind (wM.bind (wM.ret (1 : Nat)) fun d_14 => (wM.bind (wM.ret (6 : Nat)) fun d_15 => (wM.bind (wM.ret (3 : Nat)) fun d_16 => (wM.bind (wM.ret (0 : Nat)) fun d_17 => (wM.bind (wM.ret (7 : Nat)) fun d_18 => (wM.bind (wM.ret (2 : Nat)) fun d_19 => (wM.bind (wM.ret (4 : Nat)) fun d_20 => (wM.bind (wM.ret (5 : Nat)) fun d_21 => (wM.ret [d_14, d_15, d_16, d_17, d_18, d_19, d_20, d_21]))))))))) fun d_38 => (wM.bind (wM.bind (wM.ret (7 : Nat)) fun d_22 => (wM.bind (wM.ret (0 : Nat)) fun d_23 => (wM.bind (wM.ret (1 : Nat)) fun d_24 => (wM.bind (wM.ret (2 : Nat)) fun d_25 => (wM.bind (wM.ret (3 : Nat)) fun d_26 => (wM.bind (wM.ret (6 : Nat)) fun d_27 => (wM.bind (wM.ret (4 : Nat)) fun d_28 => (wM.bind (wM.ret (5 : Nat)) fun d_29 => (wM.ret [d_22, d_23, d_24, d_25, d_26, d_27, d_28, d_29]))))))))) fun d_39 => (wM.bind (wM.bind (wM.ret (0 : Nat)) fun d_30 => (wM.bind (wM.ret (1 : Nat)) fun d_31 => (wM.bind (wM.ret (3 : Nat)) fun d_32 => (wM.bind (wM.ret (2 : Nat)) fun d_33 => (wM.bind (wM.ret (7 : Nat)) fun d_34 => (wM.bind (wM.ret (6 : Nat)) fun d_35 => (wM.bind (wM.ret (4 : Nat)) fun d_36 => (wM.bind (wM.ret (5 : Nat)) fun d_37 => (wM.ret [d_30, d_31, d_32, d_33, d_34, d_35, d_36, d_37]))))))))) fun d_40 => (wM.ret [d_38, d_39, d_40])))) fun a_42 => (t__law_pick a_42))) fun known_43 =>
 (wM.bind (wM.ret known_43) fun a_48 => (wM.bind (wM.bind (wM.ret ()) fun a_44 => (wM.bind (wM.ret (3 : Nat)) fun a_45 => (t__law_order a_45))) fun a_49 => (wM.bind (wM.bind (wM.ret ()) fun a_46 => (wM.bind (wM.ret (8 : Nat)) fun a_47 => (drawW a_47))) fun a_50 => (wM.lift (t__law_moved a_48 a_49 a_50)))))) else (wM.bind (wM.bind (wM.ret ()) fun a_55 => (wM.bind (wM.bind (wM.ret n_0) fun r_53 => (wM.bind (wM.ret (1 : Nat)) fun r_54 => (wM.lift (subO r_53 r_54)))) fun a_56 => (rec_0 a_56))) fun below_60 =>
 (wM.bind (wM.bind (wM.ret ()) fun a_58 => (wM.bind (wM.ret (4 : Nat)) fun a_59 => (drawW a_59))) fun way_61 =>
 (wM.bind (wM.ret below_60) fun above_62 =>
 (wM.bind (wM.bind (wM.bind (wM.bind (wM.ret way_61) fun r_63 => (wM.bind (wM.ret (1 : Nat)) fun r_64 => (wM.lift (some (decide (r_63 = r_64)))))) fun k_67 => if k_67 then (wM.bind (wM.ret n_0) fun r_65 => (wM.bind (wM.ret (1 : Nat)) fun r_66 => (wM.lift (some (decide (r_66 < r_65)))))) else (wM.ret false)) fun k_68 =>
 (if k_68 then (wM.bind (wM.bind (wM.ret ()) fun a_72 => (wM.bind (wM.ret below_60) fun a_73 => (wM.bind (wM.bind (wM.ret n_0) fun r_70 => (wM.bind (wM.ret (1 : Nat)) fun r_71 => (wM.lift (subO r_70 r_71)))) fun a_74 => (t__law_class_turned a_73 a_74)))) fun above_76 =>
 (wM.ret above_76)) else (wM.bind (wM.bind (wM.ret way_61) fun r_77 => (wM.bind (wM.ret (1 : Nat)) fun r_78 => (wM.lift (some (decide (r_78 < r_77)))))) fun k_79 =>
 (if k_79 then (wM.bind (wM.bind (wM.ret ()) fun a_82 => (wM.bind (wM.bind (wM.ret n_0) fun r_80 => (wM.bind (wM.ret (1 : Nat)) fun r_81 => (wM.lift (subO r_80 r_81)))) fun a_83 => (rec_0 a_83))) fun above_85 =>
 (wM.ret above_85)) else (wM.ret above_62))))) fun s_69 =>
 (wM.bind (wM.bind (wM.bind (wM.bind (wM.ret below_60) fun r_87 => (wM.lift (some (r_87).length))) fun r_88 => (wM.lift (rgO r_88))) fun a_91 => (wM.bind (wM.bind (wM.ret below_60) fun a_89 => (wM.bind (wM.ret s_69) fun a_90 => (wM.lift (t__law_tied a_89 a_90)))) fun a_92 => (wM.lift (t__law_merged a_91 a_92)))) fun marks_95 =>
 (wM.bind (wM.bind (wM.ret marks_95) fun l_105 => wM.bind (wM.lift (szO l_105)) fun l_106 => compT wM (fun x_96 => (wM.ret true)) (fun x_96 => (wM.bind (wM.bind (wM.ret ()) fun a_97 => (wM.bind (wM.ret (2 : Nat)) fun a_98 => (drawW a_98))) fun r_103 => (wM.bind (wM.bind (wM.ret n_0) fun r_99 => (wM.bind (wM.ret (1 : Nat)) fun r_100 => (wM.lift (subO r_99 r_100)))) fun r_104 => (wM.lift (shlO r_103 r_104))))) l_106) fun ups_107 =>
 (wM.bind (wM.bind (wM.ret ()) fun r_111 => (wM.bind (wM.bind (wM.ret n_0) fun r_108 => (wM.bind (wM.ret (1 : Nat)) fun r_109 => (wM.lift (subO r_108 r_109)))) fun r_112 => (wM.lift (if r_112 ≤ 1000000 then some (2 ^ r_112) else none)))) fun top_113 =>
 (wM.bind (wM.bind (wM.bind (wM.bind (wM.ret below_60) fun r_114 => (wM.lift (some (r_114).length))) fun r_115 => (wM.lift (rgO r_115))) fun l_125 => wM.bind (wM.lift (szO l_125)) fun l_126 => compT wM (fun x_116 => (wM.ret true)) (fun x_116 => (wM.bind (wM.bind (wM.ret x_116) fun r_117 => (wM.lift (ixO below_60 r_117))) fun r_123 => (wM.bind (wM.bind (wM.bind (wM.ret x_116) fun r_118 => (wM.lift (ixO marks_95 r_118))) fun r_120 => (wM.lift (ixO ups_107 r_120))) fun r_124 => (wM.lift (some (r_123 ||| r_124)))))) l_126) fun low_128 =>
 (wM.bind (wM.bind (wM.ret low_128) fun r_147 => (wM.bind (wM.bind (wM.bind (wM.bind (wM.ret s_69) fun r_129 => (wM.lift (some (r_129).length))) fun r_130 => (wM.lift (rgO r_130))) fun l_143 => wM.bind (wM.lift (szO l_143)) fun l_144 => compT wM (fun x_131 => (wM.ret true)) (fun x_131 => (wM.bind (wM.bind (wM.ret x_131) fun r_132 => (wM.lift (ixO s_69 r_132))) fun r_141 => (wM.bind (wM.bind (wM.ret top_113) fun r_137 => (wM.bind (wM.bind (wM.bind (wM.ret x_131) fun r_133 => (wM.lift (ixO marks_95 r_133))) fun r_135 => (wM.lift (ixO ups_107 r_135))) fun r_138 => (wM.lift (subO r_137 r_138)))) fun r_142 => (wM.lift (some (r_141 ||| r_142)))))) l_144) fun r_148 => (wM.lift (catO r_147 r_148)))) fun r_150 => (wM.lift (some r_150)))))))))))))))
def t__law_joined (rec_0 : Nat → Wp (List Nat)) (n_0 : Nat) : Wp (List Nat) :=
 (if (decide (n_0 = (0 : Nat))) then (wM.ret [(0 : Nat)]) else (wM.bind (if (decide (n_0 = (3 : Nat))) then (wM.bind (drawW (6 : Nat)) fun z_9 =>
 (wM.ret (decide (z_9 = (0 : Nat))))) else (wM.ret false)) fun z_151 =>
 (if z_151 then (wM.bind (t__law_pick [[(1 : Nat), (6 : Nat), (3 : Nat), (0 : Nat), (7 : Nat), (2 : Nat), (4 : Nat), (5 : Nat)], [(7 : Nat), (0 : Nat), (1 : Nat), (2 : Nat), (3 : Nat), (6 : Nat), (4 : Nat), (5 : Nat)], [(0 : Nat), (1 : Nat), (3 : Nat), (2 : Nat), (7 : Nat), (6 : Nat), (4 : Nat), (5 : Nat)]]) fun known_43 =>
 (wM.bind (t__law_order (3 : Nat)) fun z_51 =>
 (wM.bind (drawW (8 : Nat)) fun z_52 =>
 (wM.lift (t__law_moved known_43 z_51 z_52))))) else (wM.bind (wM.bind (wM.lift (subO n_0 (1 : Nat))) fun z_57 =>
 (rec_0 z_57)) fun below_60 =>
 (wM.bind (drawW (4 : Nat)) fun way_61 =>
 (wM.bind (wM.ret below_60) fun above_62 =>
 (wM.bind (wM.bind (if (decide (way_61 = (1 : Nat))) then (wM.ret (decide ((1 : Nat) < n_0))) else (wM.ret false)) fun z_86 =>
 (if z_86 then (wM.bind (wM.bind (wM.lift (subO n_0 (1 : Nat))) fun z_75 =>
 (t__law_class_turned below_60 z_75)) fun above_76 =>
 (wM.ret above_76)) else (if (decide ((1 : Nat) < way_61)) then (wM.bind (wM.bind (wM.lift (subO n_0 (1 : Nat))) fun z_84 =>
 (rec_0 z_84)) fun above_85 =>
 (wM.ret above_85)) else (wM.ret above_62)))) fun s_69 =>
 (wM.bind (wM.bind (wM.lift (rgO (below_60).length)) fun z_93 =>
 (wM.bind (wM.lift (t__law_tied below_60 s_69)) fun z_94 =>
 (wM.lift (t__law_merged z_93 z_94)))) fun marks_95 =>
 (wM.bind (wM.bind (wM.lift (szO marks_95)) fun l_106 =>
 (compT wM (fun x_96 => (wM.ret true)) (fun x_96 => (wM.bind (drawW (2 : Nat)) fun z_101 =>
 (wM.bind (wM.lift (subO n_0 (1 : Nat))) fun z_102 =>
 (wM.lift (shlO z_101 z_102))))) l_106)) fun ups_107 =>
 (wM.bind (wM.bind (wM.lift (subO n_0 (1 : Nat))) fun z_110 =>
 (wM.lift (pow2O z_110))) fun top_113 =>
 (wM.bind (wM.bind (wM.lift (rgO (below_60).length)) fun z_127 =>
 (wM.bind (wM.lift (szO z_127)) fun l_126 =>
 (compT wM (fun x_116 => (wM.ret true)) (fun x_116 => (wM.bind (wM.lift (ixO below_60 x_116)) fun z_121 =>
 (wM.bind (wM.bind (wM.lift (ixO marks_95 x_116)) fun z_119 =>
 (wM.lift (ixO ups_107 z_119))) fun z_122 =>
 (wM.ret (z_121 ||| z_122))))) l_126))) fun low_128 =>
 (wM.bind (wM.bind (wM.bind (wM.lift (rgO (s_69).length)) fun z_145 =>
 (wM.bind (wM.lift (szO z_145)) fun l_144 =>
 (compT wM (fun x_131 => (wM.ret true)) (fun x_131 => (wM.bind (wM.lift (ixO s_69 x_131)) fun z_139 =>
 (wM.bind (wM.bind (wM.bind (wM.lift (ixO marks_95 x_131)) fun z_134 =>
 (wM.lift (ixO ups_107 z_134))) fun z_136 =>
 (wM.lift (subO top_113 z_136))) fun z_140 =>
 (wM.ret (z_139 ||| z_140))))) l_144))) fun z_146 =>
 (wM.lift (catO low_128 z_146))) fun z_149 =>
 (wM.ret z_149)))))))))))))
theorem tq__law_joined : @q__law_joined = @t__law_joined := rfl
def t__law_joined_k : Nat → Nat → Wp (List Nat)
  | 0 => fun _ => (wM.lift none)
  | k + 1 => t__law_joined (t__law_joined_k k)
def q__law_good (n_0 : Nat) : wM.T (List Nat) :=
 (wM.bind (wM.bind (wM.ret ()) fun a_1 => (wM.bind (wM.ret n_0) fun a_2 => (t__law_joined_k 8 a_2))) fun cube_3 =>
 (wM.bind (wM.bind (wM.bind (wM.bind (wM.ret ()) fun a_7 => (wM.bind (wM.bind (wM.bind (wM.ret n_0) fun r_4 => (wM.bind (wM.ret (5 : Nat)) fun r_5 => (wM.lift (some (decide (r_4 < r_5)))))) fun k_6 => if k_6 then (wM.ret (3 : Nat)) else (wM.ret (1 : Nat))) fun a_8 => (drawW a_8))) fun r_11 => (wM.lift (rgO r_11))) fun l_21 => foldT wM (fun (s_12 : (List Nat)) x_13 =>
 (wM.bind (wM.bind (wM.ret n_0) fun r_14 => (wM.bind (wM.ret (0 : Nat)) fun r_15 => (wM.lift (some (decide (r_15 < r_14)))))) fun k_16 =>
 (if k_16 then (wM.bind (wM.bind (wM.ret ()) fun a_17 => (wM.bind (wM.ret s_12) fun a_18 => (wM.bind (wM.ret n_0) fun a_19 => (t__law_class_turned a_18 a_19)))) fun cube_20 =>
 (wM.ret cube_20)) else (wM.ret s_12)))) l_21 cube_3) fun s_12 =>
 (wM.bind (wM.bind (wM.bind (wM.bind (wM.ret ()) fun a_23 => (wM.bind (wM.ret (2 : Nat)) fun a_24 => (drawW a_24))) fun r_26 => (wM.bind (wM.ret (0 : Nat)) fun r_27 => (wM.lift (some (decide (r_26 = r_27)))))) fun k_28 =>
 (if k_28 then (wM.bind (wM.bind (wM.ret s_12) fun a_35 => (wM.bind (wM.bind (wM.ret ()) fun a_30 => (wM.bind (wM.ret n_0) fun a_31 => (t__law_order a_31))) fun a_36 => (wM.bind (wM.bind (wM.ret ()) fun a_33 => (wM.bind (wM.bind (wM.ret s_12) fun r_32 => (wM.lift (some (r_32).length))) fun a_34 => (drawW a_34))) fun a_37 => (wM.lift (t__law_moved a_35 a_36 a_37))))) fun cube_40 =>
 (wM.ret cube_40)) else (wM.ret s_12))) fun s_29 =>
 (wM.ret s_29))))
def t__law_good (n_0 : Nat) : Wp (List Nat) :=
 (wM.bind (t__law_joined_k 8 n_0) fun cube_3 =>
 (wM.bind (wM.bind (wM.bind (wM.bind (if (decide (n_0 < (5 : Nat))) then (wM.ret (3 : Nat)) else (wM.ret (1 : Nat))) fun z_9 =>
 (drawW z_9)) fun z_10 =>
 (wM.lift (rgO z_10))) fun z_22 =>
 (foldT wM (fun (s_12 : (List Nat)) x_13 =>
 (if (decide ((0 : Nat) < n_0)) then (wM.bind (t__law_class_turned s_12 n_0) fun cube_20 =>
 (wM.ret cube_20)) else (wM.ret s_12))) z_22 cube_3)) fun s_12 =>
 (wM.bind (wM.bind (wM.bind (drawW (2 : Nat)) fun z_25 =>
 (wM.ret (decide (z_25 = (0 : Nat))))) fun z_41 =>
 (if z_41 then (wM.bind (wM.bind (t__law_order n_0) fun z_38 =>
 (wM.bind (drawW (s_12).length) fun z_39 =>
 (wM.lift (t__law_moved s_12 z_38 z_39)))) fun cube_40 =>
 (wM.ret cube_40)) else (wM.ret s_12))) fun s_29 =>
 (wM.ret s_29))))
theorem tq__law_good : @q__law_good = @t__law_good := rfl
def q__law_arrows (n_0 : Nat) : wM.T (List Nat) :=
 (wM.bind (wM.bind (wM.bind (wM.ret (0 : Nat)) fun d_1 => (wM.ret [d_1])) fun r_5 => (wM.bind (wM.bind (wM.ret ()) fun r_2 => (wM.bind (wM.ret n_0) fun r_3 => (wM.lift (if r_3 ≤ 1000000 then some (2 ^ r_3) else none)))) fun r_6 => (wM.lift (repO r_5 r_6)))) fun found_7 =>
 (wM.bind (wM.bind (wM.bind (wM.ret n_0) fun r_8 => (wM.lift (rgO r_8))) fun l_46 => foldT wM (fun (s_9 : (List Nat)) x_10 =>
 (wM.bind (wM.bind (wM.bind (wM.bind (wM.ret ()) fun r_11 => (wM.bind (wM.ret n_0) fun r_12 => (wM.lift (if r_12 ≤ 1000000 then some (2 ^ r_12) else none)))) fun r_14 => (wM.lift (rgO r_14))) fun l_44 => foldT wM (fun (s_15 : (List Nat)) x_16 =>
 (wM.bind (wM.bind (wM.bind (wM.bind (wM.ret x_16) fun r_17 => (wM.bind (wM.ret x_10) fun r_18 => (wM.lift (some (r_17 >>> r_18))))) fun r_19 => (wM.bind (wM.ret (1 : Nat)) fun r_20 => (wM.lift (some (r_19 &&& r_20))))) fun r_21 => (wM.bind (wM.ret (0 : Nat)) fun r_22 => (wM.lift (some (decide (r_21 = r_22)))))) fun k_23 =>
 (if k_23 then (wM.bind (wM.bind (wM.ret x_16) fun r_30 => (wM.bind (wM.bind (wM.bind (wM.ret ()) fun a_24 => (wM.bind (wM.ret (2 : Nat)) fun a_25 => (drawW a_25))) fun r_27 => (wM.bind (wM.ret x_10) fun r_28 => (wM.lift (shlO r_27 r_28)))) fun r_31 => (wM.lift (some (r_30 ||| r_31))))) fun end_32 =>
 (wM.bind (wM.bind (wM.bind (wM.bind (wM.ret end_32) fun r_33 => (wM.lift (ixO s_15 r_33))) fun r_38 => (wM.bind (wM.bind (wM.ret ()) fun r_34 => (wM.bind (wM.ret x_10) fun r_35 => (wM.lift (if r_35 ≤ 1000000 then some (2 ^ r_35) else none)))) fun r_39 => (wM.lift (some (r_38 ||| r_39))))) fun r_42 => (wM.bind (wM.ret end_32) fun r_43 => (wM.lift (setO s_15 r_43 r_42)))) fun found_40 =>
 (wM.ret found_40))) else (wM.ret s_15)))) l_44 s_9) fun s_15 =>
 (wM.ret s_15))) l_46 found_7) fun s_9 =>
 (wM.bind (wM.ret s_9) fun r_48 => (wM.lift (some r_48)))))
def t__law_arrows (n_0 : Nat) : Wp (List Nat) :=
 (wM.bind (wM.bind (wM.lift (pow2O n_0)) fun z_4 =>
 (wM.lift (repO [(0 : Nat)] z_4))) fun found_7 =>
 (wM.bind (wM.bind (wM.lift (rgO n_0)) fun z_47 =>
 (foldT wM (fun (s_9 : (List Nat)) x_10 =>
 (wM.bind (wM.bind (wM.bind (wM.lift (pow2O n_0)) fun z_13 =>
 (wM.lift (rgO z_13))) fun z_45 =>
 (foldT wM (fun (s_15 : (List Nat)) x_16 =>
 (if (decide (((x_16 >>> x_10) &&& (1 : Nat)) = (0 : Nat))) then (wM.bind (wM.bind (wM.bind (drawW (2 : Nat)) fun z_26 =>
 (wM.lift (shlO z_26 x_10))) fun z_29 =>
 (wM.ret (x_16 ||| z_29))) fun end_32 =>
 (wM.bind (wM.bind (wM.bind (wM.lift (ixO s_15 end_32)) fun z_36 =>
 (wM.bind (wM.lift (pow2O x_10)) fun z_37 =>
 (wM.ret (z_36 ||| z_37)))) fun z_41 =>
 (wM.lift (setO s_15 end_32 z_41))) fun found_40 =>
 (wM.ret found_40))) else (wM.ret s_15))) z_45 s_9)) fun s_15 =>
 (wM.ret s_15))) z_47 found_7)) fun s_9 =>
 (wM.ret s_9)))
theorem tq__law_arrows : @q__law_arrows = @t__law_arrows := rfl
def q__law_faces (n_0 : Nat) : wM.T (List (Nat × Nat)) :=
 (wM.bind (wM.bind (wM.bind (wM.ret ()) fun r_1 => (wM.bind (wM.ret n_0) fun r_2 => (wM.lift (if r_2 ≤ 1000000 then some (2 ^ r_2) else none)))) fun r_4 => (wM.bind (wM.ret (1 : Nat)) fun r_5 => (wM.lift (subO r_4 r_5)))) fun full_6 =>
 (wM.bind (wM.bind (wM.ret n_0) fun r_7 => (wM.bind (wM.ret (4 : Nat)) fun r_8 => (wM.lift (some (decide (r_7 < r_8)))))) fun k_9 =>
 (if k_9 then (wM.bind (wM.ret ([] : (List (Nat × Nat)))) fun found_10 =>
 (wM.bind (wM.bind (wM.bind (wM.bind (wM.ret ()) fun r_11 => (wM.bind (wM.ret n_0) fun r_12 => (wM.lift (if r_12 ≤ 1000000 then some (2 ^ r_12) else none)))) fun r_14 => (wM.lift (rgO r_14))) fun l_34 => foldT wM (fun (s_15 : (List (Nat × Nat))) x_16 =>
 (wM.bind (wM.bind (wM.bind (wM.bind (wM.bind (wM.ret ()) fun r_17 => (wM.bind (wM.ret n_0) fun r_18 => (wM.lift (if r_18 ≤ 1000000 then some (2 ^ r_18) else none)))) fun r_20 => (wM.lift (rgO r_20))) fun l_28 => wM.bind (wM.lift (szO l_28)) fun l_29 => compT wM (fun x_21 => (wM.bind (wM.bind (wM.ret x_16) fun r_22 => (wM.bind (wM.ret x_21) fun r_23 => (wM.lift (some (r_22 &&& r_23))))) fun r_24 => (wM.bind (wM.ret (0 : Nat)) fun r_25 => (wM.lift (some (decide (r_24 = r_25))))))) (fun x_21 => (wM.bind (wM.ret x_16) fun d_26 => (wM.bind (wM.ret x_21) fun d_27 => (wM.ret (d_26, d_27))))) l_29) fun r_33 => (wM.lift (catO s_15 r_33))) fun found_31 =>
 (wM.ret found_31))) l_34 found_10) fun s_15 =>
 (wM.ret s_15))) else (wM.bind (wM.bind (wM.bind (wM.ret full_6) fun d_36 => (wM.bind (wM.ret (0 : Nat)) fun d_37 => (wM.ret (d_36, d_37)))) fun d_46 => (wM.bind (wM.bind (wM.ret (0 : Nat)) fun d_43 => (wM.bind (wM.bind (wM.ret ()) fun a_40 => (wM.bind (wM.bind (wM.ret ()) fun r_38 => (wM.bind (wM.ret n_0) fun r_39 => (wM.lift (if r_39 ≤ 1000000 then some (2 ^ r_39) else none)))) fun a_41 => (drawW a_41))) fun d_44 => (wM.ret (d_43, d_44)))) fun d_47 => (wM.ret [d_46, d_47]))) fun found_49 =>
 (wM.bind (wM.bind (wM.bind (wM.bind (wM.bind (wM.ret (20 : Nat)) fun d_50 => (wM.bind (wM.ret (12 : Nat)) fun d_51 => (wM.bind (wM.ret (8 : Nat)) fun d_52 => (wM.ret [d_50, d_51, d_52])))) fun r_56 => (wM.bind (wM.bind (wM.ret n_0) fun r_53 => (wM.bind (wM.ret (4 : Nat)) fun r_54 => (wM.lift (subO r_53 r_54)))) fun r_57 => (wM.lift (ixO r_56 r_57)))) fun r_59 => (wM.lift (rgO r_59))) fun l_85 => foldT wM (fun (s_60 : (List (Nat × Nat))) x_61 =>
 (wM.bind (wM.bind (wM.ret ()) fun a_64 => (wM.bind (wM.bind (wM.ret ()) fun r_62 => (wM.bind (wM.ret n_0) fun r_63 => (wM.lift (if r_63 ≤ 1000000 then some (2 ^ r_63) else none)))) fun a_65 => (drawW a_65))) fun free_67 =>
 (wM.bind (wM.bind (wM.bind (wM.ret free_67) fun d_79 => (wM.bind (wM.bind (wM.bind (wM.ret ()) fun a_70 => (wM.bind (wM.bind (wM.ret ()) fun r_68 => (wM.bind (wM.ret n_0) fun r_69 => (wM.lift (if r_69 ≤ 1000000 then some (2 ^ r_69) else none)))) fun a_71 => (drawW a_71))) fun r_77 => (wM.bind (wM.bind (wM.ret full_6) fun r_73 => (wM.bind (wM.ret free_67) fun r_74 => (wM.lift (subO r_73 r_74)))) fun r_78 => (wM.lift (some (r_77 &&& r_78))))) fun d_80 => (wM.ret (d_79, d_80)))) fun r_84 => (wM.lift (pushO s_60 r_84))) fun found_82 =>
 (wM.ret found_82)))) l_85 found_49) fun s_60 =>
 (wM.ret s_60))))))
def t__law_faces (n_0 : Nat) : Wp (List (Nat × Nat)) :=
 (wM.bind (wM.bind (wM.lift (pow2O n_0)) fun z_3 =>
 (wM.lift (subO z_3 (1 : Nat)))) fun full_6 =>
 (if (decide (n_0 < (4 : Nat))) then (wM.bind (wM.ret ([] : (List (Nat × Nat)))) fun found_10 =>
 (wM.bind (wM.bind (wM.bind (wM.lift (pow2O n_0)) fun z_13 =>
 (wM.lift (rgO z_13))) fun z_35 =>
 (foldT wM (fun (s_15 : (List (Nat × Nat))) x_16 =>
 (wM.bind (wM.bind (wM.bind (wM.bind (wM.lift (pow2O n_0)) fun z_19 =>
 (wM.lift (rgO z_19))) fun z_30 =>
 (wM.bind (wM.lift (szO z_30)) fun l_29 =>
 (compT wM (fun x_21 => (wM.ret (decide ((x_16 &&& x_21) = (0 : Nat))))) (fun x_21 => (wM.ret (x_16, x_21))) l_29))) fun z_32 =>
 (wM.lift (catO s_15 z_32))) fun found_31 =>
 (wM.ret found_31))) z_35 found_10)) fun s_15 =>
 (wM.ret s_15))) else (wM.bind (wM.bind (wM.bind (wM.bind (wM.lift (pow2O n_0)) fun z_42 =>
 (drawW z_42)) fun z_45 =>
 (wM.ret ((0 : Nat), z_45))) fun z_48 =>
 (wM.ret [(full_6, (0 : Nat)), z_48])) fun found_49 =>
 (wM.bind (wM.bind (wM.bind (wM.bind (wM.lift (subO n_0 (4 : Nat))) fun z_55 =>
 (wM.lift (ixO [(20 : Nat), (12 : Nat), (8 : Nat)] z_55))) fun z_58 =>
 (wM.lift (rgO z_58))) fun z_86 =>
 (foldT wM (fun (s_60 : (List (Nat × Nat))) x_61 =>
 (wM.bind (wM.bind (wM.lift (pow2O n_0)) fun z_66 =>
 (drawW z_66)) fun free_67 =>
 (wM.bind (wM.bind (wM.bind (wM.bind (wM.bind (wM.lift (pow2O n_0)) fun z_72 =>
 (drawW z_72)) fun z_75 =>
 (wM.bind (wM.lift (subO full_6 free_67)) fun z_76 =>
 (wM.ret (z_75 &&& z_76)))) fun z_81 =>
 (wM.ret (free_67, z_81))) fun z_83 =>
 (wM.lift (pushO s_60 z_83))) fun found_82 =>
 (wM.ret found_82)))) z_86 found_49)) fun s_60 =>
 (wM.ret s_60)))))
theorem tq__law_faces : @q__law_faces = @t__law_faces := rfl
def q__law_corners (face_0 : (Nat × Nat)) : oM.T (List Nat) :=
 (oM.bind (oM.bind (oM.bind (oM.ret ()) fun r_1 => (oM.lift (some face_0.2))) fun d_2 => (oM.ret [d_2])) fun found_3 =>
 (oM.bind (oM.bind (oM.bind (oM.ret (6 : Nat)) fun r_4 => (oM.lift (rgO r_4))) fun l_27 => foldT oM (fun (s_5 : (List Nat)) x_6 =>
 (oM.bind (oM.bind (oM.bind (oM.bind (oM.bind (oM.ret ()) fun r_7 => (oM.lift (some face_0.1))) fun r_8 => (oM.bind (oM.ret x_6) fun r_9 => (oM.lift (some (r_8 >>> r_9))))) fun r_10 => (oM.bind (oM.ret (1 : Nat)) fun r_11 => (oM.lift (some (r_10 &&& r_11))))) fun r_12 => (oM.bind (oM.ret (1 : Nat)) fun r_13 => (oM.lift (some (decide (r_12 = r_13)))))) fun k_14 =>
 (if k_14 then (oM.bind (oM.bind (oM.ret s_5) fun r_24 => (oM.bind (oM.bind (oM.ret s_5) fun l_21 => oM.bind (oM.lift (szO l_21)) fun l_22 => compT oM (fun x_15 => (oM.ret true)) (fun x_15 => (oM.bind (oM.ret x_15) fun r_19 => (oM.bind (oM.bind (oM.ret ()) fun r_16 => (oM.bind (oM.ret x_6) fun r_17 => (oM.lift (if r_17 ≤ 1000000 then some (2 ^ r_17) else none)))) fun r_20 => (oM.lift (some (r_19 ||| r_20)))))) l_22) fun r_25 => (oM.lift (catO r_24 r_25)))) fun found_26 =>
 (oM.ret found_26)) else (oM.ret s_5)))) l_27 found_3) fun s_5 =>
 (oM.bind (oM.ret s_5) fun r_28 => (oM.lift (some (sortN r_28))))))
def t__law_corners (face_0 : (Nat × Nat)) : Option (List Nat) :=
 (Option.bind (some [face_0.2]) fun found_3 =>
 (Option.bind (foldT oM (fun (s_5 : (List Nat)) x_6 =>
 (if (decide (((face_0.1 >>> x_6) &&& (1 : Nat)) = (1 : Nat))) then (Option.bind (Option.bind (Option.bind (szO s_5) fun l_22 =>
 (compT oM (fun x_15 => (some true)) (fun x_15 => (Option.bind (pow2O x_6) fun z_18 =>
 (some (x_15 ||| z_18)))) l_22)) fun z_23 =>
 (catO s_5 z_23)) fun found_26 =>
 (some found_26)) else (some s_5))) (List.range (6 : Nat)) found_3) fun s_5 =>
 (some (sortN s_5))))
theorem tq__law_corners : @q__law_corners = @t__law_corners := rfl
def q__law_lows (arrows_0 : (List Nat)) (face_0 : (Nat × Nat)) : oM.T (List Nat) :=
 (oM.bind (oM.bind (oM.bind (oM.ret face_0) fun a_1 => (t__law_corners a_1)) fun l_11 => oM.bind (oM.lift (szO l_11)) fun l_12 => compT oM (fun x_2 => (oM.bind (oM.bind (oM.bind (oM.ret x_2) fun r_3 => (oM.lift (ixO arrows_0 r_3))) fun r_6 => (oM.bind (oM.bind (oM.ret ()) fun r_4 => (oM.lift (some face_0.1))) fun r_7 => (oM.lift (some (r_6 &&& r_7))))) fun r_9 => (oM.bind (oM.ret (0 : Nat)) fun r_10 => (oM.lift (some (decide (r_9 = r_10))))))) (fun x_2 => (oM.ret x_2)) l_12) fun r_15 => (oM.lift (some r_15)))
def t__law_lows (arrows_0 : (List Nat)) (face_0 : (Nat × Nat)) : Option (List Nat) :=
 (Option.bind (Option.bind (t__law_corners face_0) fun z_13 =>
 (Option.bind (szO z_13) fun l_12 =>
 (compT oM (fun x_2 => (Option.bind (Option.bind (ixO arrows_0 x_2) fun z_5 =>
 (some (z_5 &&& face_0.1))) fun z_8 =>
 (some (decide (z_8 = (0 : Nat)))))) (fun x_2 => (some x_2)) l_12))) fun z_14 =>
 (some z_14))
theorem tq__law_lows : @q__law_lows = @t__law_lows := rfl
def q__law_highs (arrows_0 : (List Nat)) (face_0 : (Nat × Nat)) : oM.T (List Nat) :=
 (oM.bind (oM.bind (oM.bind (oM.ret face_0) fun a_1 => (t__law_corners a_1)) fun l_12 => oM.bind (oM.lift (szO l_12)) fun l_13 => compT oM (fun x_2 => (oM.bind (oM.bind (oM.bind (oM.ret x_2) fun r_3 => (oM.lift (ixO arrows_0 r_3))) fun r_6 => (oM.bind (oM.bind (oM.ret ()) fun r_4 => (oM.lift (some face_0.1))) fun r_7 => (oM.lift (some (r_6 &&& r_7))))) fun r_10 => (oM.bind (oM.bind (oM.ret ()) fun r_8 => (oM.lift (some face_0.1))) fun r_11 => (oM.lift (some (decide (r_10 = r_11))))))) (fun x_2 => (oM.ret x_2)) l_13) fun r_16 => (oM.lift (some r_16)))
def t__law_highs (arrows_0 : (List Nat)) (face_0 : (Nat × Nat)) : Option (List Nat) :=
 (Option.bind (Option.bind (t__law_corners face_0) fun z_14 =>
 (Option.bind (szO z_14) fun l_13 =>
 (compT oM (fun x_2 => (Option.bind (Option.bind (ixO arrows_0 x_2) fun z_5 =>
 (some (z_5 &&& face_0.1))) fun z_9 =>
 (some (decide (z_9 = face_0.1))))) (fun x_2 => (some x_2)) l_13))) fun z_15 =>
 (some z_15))
theorem tq__law_highs : @q__law_highs = @t__law_highs := rfl
def q__law_many (some_0 : Nat) : oM.T Nat :=
 (oM.bind (oM.bind (oM.bind (oM.ret (6 : Nat)) fun r_1 => (oM.lift (rgO r_1))) fun l_7 => oM.bind (oM.lift (szO l_7)) fun l_8 => compT oM (fun x_2 => (oM.ret true)) (fun x_2 => (oM.bind (oM.bind (oM.ret some_0) fun r_3 => (oM.bind (oM.ret x_2) fun r_4 => (oM.lift (some (r_3 >>> r_4))))) fun r_5 => (oM.bind (oM.ret (1 : Nat)) fun r_6 => (oM.lift (some (r_5 &&& r_6)))))) l_8) fun r_10 => (oM.lift (some (r_10).sum)))
def t__law_many (some_0 : Nat) : Option Nat :=
 (Option.bind (Option.bind (szO (List.range (6 : Nat))) fun l_8 =>
 (compT oM (fun x_2 => (some true)) (fun x_2 => (some ((some_0 >>> x_2) &&& (1 : Nat)))) l_8)) fun z_9 =>
 (some (z_9).sum))
theorem tq__law_many : @q__law_many = @t__law_many := rfl
def q__law_binomials (many_0 : Nat) : oM.T (List Nat) :=
 (oM.bind (oM.bind (oM.ret (1 : Nat)) fun d_1 => (oM.ret [d_1])) fun row_2 =>
 (oM.bind (oM.bind (oM.bind (oM.ret many_0) fun r_3 => (oM.lift (rgO r_3))) fun l_32 => foldT oM (fun (s_4 : (List Nat)) x_5 =>
 (oM.bind (oM.bind (oM.bind (oM.bind (oM.ret (1 : Nat)) fun d_6 => (oM.ret [d_6])) fun r_25 => (oM.bind (oM.bind (oM.bind (oM.bind (oM.bind (oM.ret s_4) fun r_7 => (oM.lift (some (r_7).length))) fun r_8 => (oM.bind (oM.ret (1 : Nat)) fun r_9 => (oM.lift (subO r_8 r_9)))) fun r_11 => (oM.lift (rgO r_11))) fun l_21 => oM.bind (oM.lift (szO l_21)) fun l_22 => compT oM (fun x_12 => (oM.ret true)) (fun x_12 => (oM.bind (oM.bind (oM.ret x_12) fun r_13 => (oM.lift (ixO s_4 r_13))) fun r_19 => (oM.bind (oM.bind (oM.bind (oM.ret x_12) fun r_14 => (oM.bind (oM.ret (1 : Nat)) fun r_15 => (oM.lift (some (r_14 + r_15))))) fun r_16 => (oM.lift (ixO s_4 r_16))) fun r_20 => (oM.lift (some (r_19 + r_20)))))) l_22) fun r_26 => (oM.lift (catO r_25 r_26)))) fun r_29 => (oM.bind (oM.bind (oM.ret (1 : Nat)) fun d_27 => (oM.ret [d_27])) fun r_30 => (oM.lift (catO r_29 r_30)))) fun row_31 =>
 (oM.ret row_31))) l_32 row_2) fun s_4 =>
 (oM.bind (oM.ret s_4) fun r_34 => (oM.lift (some r_34)))))
def t__law_binomials (many_0 : Nat) : Option (List Nat) :=
 (Option.bind (some [(1 : Nat)]) fun row_2 =>
 (Option.bind (Option.bind (rgO many_0) fun z_33 =>
 (foldT oM (fun (s_4 : (List Nat)) x_5 =>
 (Option.bind (Option.bind (Option.bind (Option.bind (Option.bind (subO (s_4).length (1 : Nat)) fun z_10 =>
 (rgO z_10)) fun z_23 =>
 (Option.bind (szO z_23) fun l_22 =>
 (compT oM (fun x_12 => (some true)) (fun x_12 => (Option.bind (ixO s_4 x_12) fun z_17 =>
 (Option.bind (ixO s_4 (x_12 + (1 : Nat))) fun z_18 =>
 (some (z_17 + z_18))))) l_22))) fun z_24 =>
 (catO [(1 : Nat)] z_24)) fun z_28 =>
 (catO z_28 [(1 : Nat)])) fun row_31 =>
 (some row_31))) z_33 row_2)) fun s_4 =>
 (some s_4)))
theorem tq__law_binomials : @q__law_binomials = @t__law_binomials := rfl
def q_subsets_of (ways_0 : Nat) : oM.T (List Nat) :=
 (oM.bind (oM.bind (oM.ret (0 : Nat)) fun d_1 => (oM.ret [d_1])) fun found_2 =>
 (oM.bind (oM.bind (oM.bind (oM.bind (oM.ret ways_0) fun r_3 => (oM.lift (some (bitsN r_3)))) fun r_4 => (oM.lift (rgO r_4))) fun l_26 => foldT oM (fun (s_5 : (List Nat)) x_6 =>
 (oM.bind (oM.bind (oM.bind (oM.bind (oM.ret ways_0) fun r_7 => (oM.bind (oM.ret x_6) fun r_8 => (oM.lift (some (r_7 >>> r_8))))) fun r_9 => (oM.bind (oM.ret (1 : Nat)) fun r_10 => (oM.lift (some (r_9 &&& r_10))))) fun r_11 => (oM.bind (oM.ret (1 : Nat)) fun r_12 => (oM.lift (some (decide (r_11 = r_12)))))) fun k_13 =>
 (if k_13 then (oM.bind (oM.bind (oM.ret s_5) fun r_23 => (oM.bind (oM.bind (oM.ret s_5) fun l_20 => oM.bind (oM.lift (szO l_20)) fun l_21 => compT oM (fun x_14 => (oM.ret true)) (fun x_14 => (oM.bind (oM.ret x_14) fun r_18 => (oM.bind (oM.bind (oM.ret ()) fun r_15 => (oM.bind (oM.ret x_6) fun r_16 => (oM.lift (if r_16 ≤ 1000000 then some (2 ^ r_16) else none)))) fun r_19 => (oM.lift (some (r_18 ||| r_19)))))) l_21) fun r_24 => (oM.lift (catO r_23 r_24)))) fun found_25 =>
 (oM.ret found_25)) else (oM.ret s_5)))) l_26 found_2) fun s_5 =>
 (oM.ret s_5)))
def t_subsets_of (ways_0 : Nat) : Option (List Nat) :=
 (Option.bind (some [(0 : Nat)]) fun found_2 =>
 (Option.bind (Option.bind (rgO (bitsN ways_0)) fun z_27 =>
 (foldT oM (fun (s_5 : (List Nat)) x_6 =>
 (if (decide (((ways_0 >>> x_6) &&& (1 : Nat)) = (1 : Nat))) then (Option.bind (Option.bind (Option.bind (szO s_5) fun l_21 =>
 (compT oM (fun x_14 => (some true)) (fun x_14 => (Option.bind (pow2O x_6) fun z_17 =>
 (some (x_14 ||| z_17)))) l_21)) fun z_22 =>
 (catO s_5 z_22)) fun found_25 =>
 (some found_25)) else (some s_5))) z_27 found_2)) fun s_5 =>
 (some s_5)))
theorem tq_subsets_of : @q_subsets_of = @t_subsets_of := rfl
def q_face_corners (face_0 : (Nat × Nat)) : oM.T (List Nat) :=
 (oM.bind (oM.bind (oM.bind (oM.bind (oM.ret ()) fun r_1 => (oM.lift (some face_0.1))) fun a_2 => (t_subsets_of a_2)) fun l_7 => oM.bind (oM.lift (szO l_7)) fun l_8 => compT oM (fun x_3 => (oM.ret true)) (fun x_3 => (oM.bind (oM.bind (oM.ret ()) fun r_4 => (oM.lift (some face_0.2))) fun r_5 => (oM.bind (oM.ret x_3) fun r_6 => (oM.lift (some (r_5 ||| r_6)))))) l_8) fun r_11 => (oM.lift (some r_11)))
def t_face_corners (face_0 : (Nat × Nat)) : Option (List Nat) :=
 (Option.bind (Option.bind (t_subsets_of face_0.1) fun z_9 =>
 (Option.bind (szO z_9) fun l_8 =>
 (compT oM (fun x_3 => (some true)) (fun x_3 => (some (face_0.2 ||| x_3))) l_8))) fun z_10 =>
 (some z_10))
theorem tq_face_corners : @q_face_corners = @t_face_corners := rfl
def q_corner_named (cube_0 : (List Nat)) (face_0 : (Nat × Nat)) (ways_0 : Nat) : oM.T Nat :=
 (oM.bind (oM.bind (oM.bind (oM.ret ways_0) fun r_2 => (oM.bind (oM.bind (oM.ret ()) fun r_1 => (oM.lift (some face_0.1))) fun r_3 => (oM.ret (r_2 - (r_2 &&& r_3))))) fun r_4 => (oM.bind (oM.ret (0 : Nat)) fun r_5 => (oM.lift (some (!decide (r_4 = r_5)))))) fun k_6 =>
 (if k_6 then (oM.lift none) else (oM.bind (oM.bind (oM.bind (oM.ret face_0) fun a_7 => (t_face_corners a_7)) fun l_17 => oM.bind (oM.lift (szO l_17)) fun l_18 => compT oM (fun x_8 => (oM.bind (oM.bind (oM.bind (oM.ret x_8) fun r_9 => (oM.lift (ixO cube_0 r_9))) fun r_12 => (oM.bind (oM.bind (oM.ret ()) fun r_10 => (oM.lift (some face_0.1))) fun r_13 => (oM.lift (some (r_12 &&& r_13))))) fun r_15 => (oM.bind (oM.ret ways_0) fun r_16 => (oM.lift (some (decide (r_15 = r_16))))))) (fun x_8 => (oM.ret x_8)) l_18) fun r_21 => (oM.bind (oM.ret (0 : Nat)) fun r_22 => (oM.lift (ixO r_21 r_22))))))
def t_corner_named (cube_0 : (List Nat)) (face_0 : (Nat × Nat)) (ways_0 : Nat) : Option Nat :=
 (if (!decide ((ways_0 - (ways_0 &&& face_0.1)) = (0 : Nat))) then none else (Option.bind (Option.bind (t_face_corners face_0) fun z_19 =>
 (Option.bind (szO z_19) fun l_18 =>
 (compT oM (fun x_8 => (Option.bind (Option.bind (ixO cube_0 x_8) fun z_11 =>
 (some (z_11 &&& face_0.1))) fun z_14 =>
 (some (decide (z_14 = ways_0))))) (fun x_8 => (some x_8)) l_18))) fun z_20 =>
 (ixO z_20 (0 : Nat))))
theorem tq_corner_named : @q_corner_named = @t_corner_named := rfl
def q_low_of (cube_0 : (List Nat)) (face_0 : (Nat × Nat)) : oM.T Nat :=
 (oM.bind (oM.ret cube_0) fun a_1 => (oM.bind (oM.ret face_0) fun a_2 => (oM.bind (oM.ret (0 : Nat)) fun a_3 => (t_corner_named a_1 a_2 a_3))))
def t_low_of (cube_0 : (List Nat)) (face_0 : (Nat × Nat)) : Option Nat :=
 (t_corner_named cube_0 face_0 (0 : Nat))
theorem tq_low_of : @q_low_of = @t_low_of := rfl
def q_high_of (cube_0 : (List Nat)) (face_0 : (Nat × Nat)) : oM.T Nat :=
 (oM.bind (oM.ret cube_0) fun a_2 => (oM.bind (oM.ret face_0) fun a_3 => (oM.bind (oM.bind (oM.ret ()) fun r_1 => (oM.lift (some face_0.1))) fun a_4 => (t_corner_named a_2 a_3 a_4))))
def t_high_of (cube_0 : (List Nat)) (face_0 : (Nat × Nat)) : Option Nat :=
 (t_corner_named cube_0 face_0 face_0.1)
theorem tq_high_of : @q_high_of = @t_high_of := rfl
def q_bits_number (ways_0 : Nat) : oM.T Nat :=
 (oM.bind (oM.ret (0 : Nat)) fun found_1 =>
 (oM.bind (whileT oM (fun (s_2 : (Nat × Nat)) => (oM.bind (oM.ret s_2.2) fun r_3 => (oM.bind (oM.ret (0 : Nat)) fun r_4 => (oM.lift (some (decide (r_4 < r_3))))))) (fun (s_2 : (Nat × Nat)) =>
 (oM.bind (oM.bind (oM.ret s_2.1) fun r_7 => (oM.bind (oM.bind (oM.ret s_2.2) fun r_5 => (oM.bind (oM.ret (1 : Nat)) fun r_6 => (oM.lift (some (r_5 &&& r_6))))) fun r_8 => (oM.lift (some (r_7 + r_8))))) fun found_11 =>
 (oM.bind (oM.bind (oM.ret s_2.2) fun r_9 => (oM.bind (oM.ret (1 : Nat)) fun r_10 => (oM.lift (some (r_9 >>> r_10))))) fun ways_12 =>
 (oM.ret (found_11, ways_12))))) 100 (found_1, ways_0)) fun s_2 =>
 (oM.ret s_2.1)))
def t_bits_number (ways_0 : Nat) : Option Nat :=
 (Option.bind (some (0 : Nat)) fun found_1 =>
 (Option.bind (whileT oM (fun (s_2 : (Nat × Nat)) => (some (decide ((0 : Nat) < s_2.2)))) (fun (s_2 : (Nat × Nat)) =>
 (Option.bind (some (s_2.1 + (s_2.2 &&& (1 : Nat)))) fun found_11 =>
 (Option.bind (some (s_2.2 >>> (1 : Nat))) fun ways_12 =>
 (some (found_11, ways_12))))) 100 (found_1, ways_0)) fun s_2 =>
 (some s_2.1)))
theorem tq_bits_number : @q_bits_number = @t_bits_number := rfl
def q_leaving_counts (cube_0 : (List Nat)) (face_0 : (Nat × Nat)) : oM.T (List Nat) :=
 (oM.bind (oM.bind (oM.bind (oM.ret (0 : Nat)) fun d_1 => (oM.ret [d_1])) fun r_8 => (oM.bind (oM.bind (oM.bind (oM.bind (oM.ret ()) fun r_2 => (oM.lift (some face_0.1))) fun a_3 => (t_bits_number a_3)) fun r_5 => (oM.bind (oM.ret (1 : Nat)) fun r_6 => (oM.lift (some (r_5 + r_6))))) fun r_9 => (oM.lift (repO r_8 r_9)))) fun found_10 =>
 (oM.bind (oM.bind (oM.bind (oM.ret face_0) fun a_11 => (t_face_corners a_11)) fun l_30 => foldT oM (fun (s_12 : (List Nat)) x_13 =>
 (oM.bind (oM.bind (oM.bind (oM.bind (oM.ret x_13) fun r_14 => (oM.lift (ixO cube_0 r_14))) fun r_17 => (oM.bind (oM.bind (oM.ret ()) fun r_15 => (oM.lift (some face_0.1))) fun r_18 => (oM.lift (some (r_17 &&& r_18))))) fun a_19 => (t_bits_number a_19)) fun many_21 =>
 (oM.bind (oM.bind (oM.bind (oM.bind (oM.ret many_21) fun r_22 => (oM.lift (ixO s_12 r_22))) fun r_24 => (oM.bind (oM.ret (1 : Nat)) fun r_25 => (oM.lift (some (r_24 + r_25))))) fun r_28 => (oM.bind (oM.ret many_21) fun r_29 => (oM.lift (setO s_12 r_29 r_28)))) fun found_26 =>
 (oM.ret found_26)))) l_30 found_10) fun s_12 =>
 (oM.bind (oM.ret s_12) fun r_32 => (oM.lift (some r_32)))))
def t_leaving_counts (cube_0 : (List Nat)) (face_0 : (Nat × Nat)) : Option (List Nat) :=
 (Option.bind (Option.bind (Option.bind (t_bits_number face_0.1) fun z_4 =>
 (some (z_4 + (1 : Nat)))) fun z_7 =>
 (repO [(0 : Nat)] z_7)) fun found_10 =>
 (Option.bind (Option.bind (t_face_corners face_0) fun z_31 =>
 (foldT oM (fun (s_12 : (List Nat)) x_13 =>
 (Option.bind (Option.bind (Option.bind (ixO cube_0 x_13) fun z_16 =>
 (some (z_16 &&& face_0.1))) fun z_20 =>
 (t_bits_number z_20)) fun many_21 =>
 (Option.bind (Option.bind (Option.bind (ixO s_12 many_21) fun z_23 =>
 (some (z_23 + (1 : Nat)))) fun z_27 =>
 (setO s_12 many_21 z_27)) fun found_26 =>
 (some found_26)))) z_31 found_10)) fun s_12 =>
 (some s_12)))
theorem tq_leaving_counts : @q_leaving_counts = @t_leaving_counts := rfl
def q_low_corners (arrows_0 : (List Nat)) (face_0 : (Nat × Nat)) : oM.T (List Nat) :=
 (oM.bind (oM.bind (oM.bind (oM.ret face_0) fun a_1 => (t_face_corners a_1)) fun l_11 => oM.bind (oM.lift (szO l_11)) fun l_12 => compT oM (fun x_2 => (oM.bind (oM.bind (oM.bind (oM.ret x_2) fun r_3 => (oM.lift (ixO arrows_0 r_3))) fun r_6 => (oM.bind (oM.bind (oM.ret ()) fun r_4 => (oM.lift (some face_0.1))) fun r_7 => (oM.lift (some (r_6 &&& r_7))))) fun r_9 => (oM.bind (oM.ret (0 : Nat)) fun r_10 => (oM.lift (some (decide (r_9 = r_10))))))) (fun x_2 => (oM.ret x_2)) l_12) fun r_15 => (oM.lift (some r_15)))
def t_low_corners (arrows_0 : (List Nat)) (face_0 : (Nat × Nat)) : Option (List Nat) :=
 (Option.bind (Option.bind (t_face_corners face_0) fun z_13 =>
 (Option.bind (szO z_13) fun l_12 =>
 (compT oM (fun x_2 => (Option.bind (Option.bind (ixO arrows_0 x_2) fun z_5 =>
 (some (z_5 &&& face_0.1))) fun z_8 =>
 (some (decide (z_8 = (0 : Nat)))))) (fun x_2 => (some x_2)) l_12))) fun z_14 =>
 (some z_14))
theorem tq_low_corners : @q_low_corners = @t_low_corners := rfl
def q_high_corners (arrows_0 : (List Nat)) (face_0 : (Nat × Nat)) : oM.T (List Nat) :=
 (oM.bind (oM.bind (oM.bind (oM.ret face_0) fun a_1 => (t_face_corners a_1)) fun l_12 => oM.bind (oM.lift (szO l_12)) fun l_13 => compT oM (fun x_2 => (oM.bind (oM.bind (oM.bind (oM.ret x_2) fun r_3 => (oM.lift (ixO arrows_0 r_3))) fun r_6 => (oM.bind (oM.bind (oM.ret ()) fun r_4 => (oM.lift (some face_0.1))) fun r_7 => (oM.lift (some (r_6 &&& r_7))))) fun r_10 => (oM.bind (oM.bind (oM.ret ()) fun r_8 => (oM.lift (some face_0.1))) fun r_11 => (oM.lift (some (decide (r_10 = r_11))))))) (fun x_2 => (oM.ret x_2)) l_13) fun r_16 => (oM.lift (some r_16)))
def t_high_corners (arrows_0 : (List Nat)) (face_0 : (Nat × Nat)) : Option (List Nat) :=
 (Option.bind (Option.bind (t_face_corners face_0) fun z_14 =>
 (Option.bind (szO z_14) fun l_13 =>
 (compT oM (fun x_2 => (Option.bind (Option.bind (ixO arrows_0 x_2) fun z_5 =>
 (some (z_5 &&& face_0.1))) fun z_9 =>
 (some (decide (z_9 = face_0.1))))) (fun x_2 => (some x_2)) l_13))) fun z_15 =>
 (some z_15))
theorem tq_high_corners : @q_high_corners = @t_high_corners := rfl
def q__law_same (told_0 : (Nat × (Nat × ((List Nat) × ((List Nat) × (List Nat)))))) (due_0 : (Nat × (Nat × ((List Nat) × ((List Nat) × (List Nat)))))) : oM.T Bool :=
 (oM.bind (oM.bind (oM.bind (oM.ret told_0) fun r_1 => (oM.lift (reprO (eQ5 nI nI (eT nI) (eT nI) (eT nI)) r_1))) fun r_5 => (oM.bind (oM.bind (oM.ret due_0) fun r_2 => (oM.lift (reprO (eQ5 nI nI (eT nI) (eT nI) (eT nI)) r_2))) fun r_6 => (oM.lift (some (decide (r_5 = r_6)))))) fun k_9 => if k_9 then (oM.bind (oM.ret told_0) fun r_7 => (oM.bind (oM.ret due_0) fun r_8 => (oM.lift (some (decide (r_7 = r_8)))))) else (oM.ret false))
def t__law_same (told_0 : (Nat × (Nat × ((List Nat) × ((List Nat) × (List Nat)))))) (due_0 : (Nat × (Nat × ((List Nat) × ((List Nat) × (List Nat)))))) : Option Bool :=
 (Option.bind (Option.bind (reprO (eQ5 nI nI (eT nI) (eT nI) (eT nI)) told_0) fun z_3 =>
 (Option.bind (reprO (eQ5 nI nI (eT nI) (eT nI) (eT nI)) due_0) fun z_4 =>
 (some (decide (z_3 = z_4))))) fun z_10 =>
 (if z_10 then (some (decide (told_0 = due_0))) else (some false)))
theorem tq__law_same : @q__law_same = @t__law_same := rfl
def q__law_is_face_right (cube_0 : (List Nat)) (face_0 : (Nat × Nat)) (turn_0 : Nat) : oM.T Bool :=
 (oM.bind (oM.bind (oM.bind (oM.ret cube_0) fun a_1 => (oM.bind (oM.ret face_0) fun a_2 => (t__law_lows a_1 a_2))) fun r_4 => (oM.bind (oM.ret (0 : Nat)) fun r_5 => (oM.lift (ixO r_4 r_5)))) fun low_11 =>
 (oM.bind (oM.bind (oM.bind (oM.ret cube_0) fun a_6 => (oM.bind (oM.ret face_0) fun a_7 => (t__law_highs a_6 a_7))) fun r_9 => (oM.bind (oM.ret (0 : Nat)) fun r_10 => (oM.lift (ixO r_9 r_10)))) fun high_12 =>
 (oM.bind (oM.bind (oM.ret low_11) fun d_19 => (oM.bind (oM.ret high_12) fun d_20 => (oM.bind (oM.bind (oM.bind (oM.bind (oM.ret ()) fun r_13 => (oM.lift (some face_0.1))) fun a_14 => (t__law_many a_14)) fun a_15 => (t__law_binomials a_15)) fun d_21 => (oM.bind (oM.bind (oM.ret low_11) fun d_17 => (oM.ret [d_17])) fun d_22 => (oM.bind (oM.bind (oM.ret high_12) fun d_18 => (oM.ret [d_18])) fun d_23 => (oM.ret (d_19, d_20, d_21, d_22, d_23))))))) fun due_25 =>
 (oM.bind (oM.bind (oM.bind (oM.ret turn_0) fun r_26 => (oM.bind (oM.ret (0 : Nat)) fun r_27 => (oM.lift (some (decide (r_26 = r_27)))))) fun k_28 =>
 (if k_28 then (oM.bind (oM.bind (oM.bind (oM.ret cube_0) fun a_30 => (oM.bind (oM.ret face_0) fun a_31 => (t_low_of a_30 a_31))) fun d_36 => (oM.bind (oM.bind (oM.ret cube_0) fun a_32 => (oM.bind (oM.ret face_0) fun a_33 => (t_high_of a_32 a_33))) fun d_37 => (oM.bind (oM.bind (oM.ret cube_0) fun a_34 => (oM.bind (oM.ret face_0) fun a_35 => (t_leaving_counts a_34 a_35))) fun d_38 => (oM.ret (d_36, d_37, d_38))))) fun told_42 =>
 (oM.bind (oM.bind (oM.ret told_42) fun r_52 => (oM.bind (oM.bind (oM.bind (oM.ret cube_0) fun a_43 => (oM.bind (oM.ret face_0) fun a_44 => (t_low_corners a_43 a_44))) fun d_47 => (oM.bind (oM.bind (oM.ret cube_0) fun a_45 => (oM.bind (oM.ret face_0) fun a_46 => (t_high_corners a_45 a_46))) fun d_48 => (oM.ret (d_47, d_48)))) fun r_53 => (oM.lift (some (r_52.1, r_52.2.1, r_52.2.2, r_53.1, r_53.2))))) fun told_54 =>
 (oM.ret told_54))) else (oM.bind (oM.bind (oM.bind (oM.ret cube_0) fun a_55 => (oM.bind (oM.ret face_0) fun a_56 => (t_low_of a_55 a_56))) fun d_61 => (oM.bind (oM.bind (oM.ret face_0) fun a_57 => (oM.bind (oM.ret cube_0) fun a_58 => (t_high_of a_58 a_57))) fun d_62 => (oM.bind (oM.bind (oM.ret cube_0) fun a_59 => (oM.bind (oM.ret face_0) fun a_60 => (t_leaving_counts a_59 a_60))) fun d_63 => (oM.ret (d_61, d_62, d_63))))) fun told_67 =>
 (oM.bind (oM.bind (oM.ret told_67) fun r_77 => (oM.bind (oM.bind (oM.bind (oM.ret cube_0) fun a_68 => (oM.bind (oM.ret face_0) fun a_69 => (t_low_corners a_68 a_69))) fun d_72 => (oM.bind (oM.bind (oM.ret face_0) fun a_70 => (oM.bind (oM.ret cube_0) fun a_71 => (t_high_corners a_71 a_70))) fun d_73 => (oM.ret (d_72, d_73)))) fun r_78 => (oM.lift (some (r_77.1, r_77.2.1, r_77.2.2, r_78.1, r_78.2))))) fun told_79 =>
 (oM.ret told_79))))) fun s_29 =>
 (oM.bind (oM.ret s_29) fun a_80 => (oM.bind (oM.ret due_25) fun a_81 => (t__law_same a_80 a_81)))))))
def t__law_is_face_right (cube_0 : (List Nat)) (face_0 : (Nat × Nat)) (turn_0 : Nat) : Option Bool :=
 (Option.bind (Option.bind (t__law_lows cube_0 face_0) fun z_3 =>
 (ixO z_3 (0 : Nat))) fun low_11 =>
 (Option.bind (Option.bind (t__law_highs cube_0 face_0) fun z_8 =>
 (ixO z_8 (0 : Nat))) fun high_12 =>
 (Option.bind (Option.bind (Option.bind (t__law_many face_0.1) fun z_16 =>
 (t__law_binomials z_16)) fun z_24 =>
 (some (low_11, high_12, z_24, [low_11], [high_12]))) fun due_25 =>
 (Option.bind (if (decide (turn_0 = (0 : Nat))) then (Option.bind (Option.bind (t_low_of cube_0 face_0) fun z_39 =>
 (Option.bind (t_high_of cube_0 face_0) fun z_40 =>
 (Option.bind (t_leaving_counts cube_0 face_0) fun z_41 =>
 (some (z_39, z_40, z_41))))) fun told_42 =>
 (Option.bind (Option.bind (Option.bind (t_low_corners cube_0 face_0) fun z_49 =>
 (Option.bind (t_high_corners cube_0 face_0) fun z_50 =>
 (some (z_49, z_50)))) fun z_51 =>
 (some ((told_42).1, (told_42).2.1, (told_42).2.2, (z_51).1, (z_51).2))) fun told_54 =>
 (some told_54))) else (Option.bind (Option.bind (t_low_of cube_0 face_0) fun z_64 =>
 (Option.bind (t_high_of cube_0 face_0) fun z_65 =>
 (Option.bind (t_leaving_counts cube_0 face_0) fun z_66 =>
 (some (z_64, z_65, z_66))))) fun told_67 =>
 (Option.bind (Option.bind (Option.bind (t_low_corners cube_0 face_0) fun z_74 =>
 (Option.bind (t_high_corners cube_0 face_0) fun z_75 =>
 (some (z_74, z_75)))) fun z_76 =>
 (some ((told_67).1, (told_67).2.1, (told_67).2.2, (z_76).1, (z_76).2))) fun told_79 =>
 (some told_79)))) fun s_29 =>
 (t__law_same s_29 due_25)))))
theorem tq__law_is_face_right : @q__law_is_face_right = @t__law_is_face_right := rfl
def q__law_same_i2 (told_0 : (List Nat)) (due_0 : (List Nat)) : oM.T Bool :=
 (oM.bind (oM.bind (oM.bind (oM.ret told_0) fun r_1 => (oM.lift (reprO (eL nI) r_1))) fun r_5 => (oM.bind (oM.bind (oM.ret due_0) fun r_2 => (oM.lift (reprO (eL nI) r_2))) fun r_6 => (oM.lift (some (decide (r_5 = r_6)))))) fun k_9 => if k_9 then (oM.bind (oM.ret told_0) fun r_7 => (oM.bind (oM.ret due_0) fun r_8 => (oM.lift (some (decide (r_7 = r_8)))))) else (oM.ret false))
def t__law_same_i2 (told_0 : (List Nat)) (due_0 : (List Nat)) : Option Bool :=
 (Option.bind (Option.bind (reprO (eL nI) told_0) fun z_3 =>
 (Option.bind (reprO (eL nI) due_0) fun z_4 =>
 (some (decide (z_3 = z_4))))) fun z_10 =>
 (if z_10 then (some (decide (told_0 = due_0))) else (some false)))
theorem tq__law_same_i2 : @q__law_same_i2 = @t__law_same_i2 := rfl
def q__law_is_named_right (cube_0 : (List Nat)) (face_0 : (Nat × Nat)) (turn_0 : Nat) : oM.T Bool :=
 (oM.bind (oM.bind (oM.bind (oM.bind (oM.ret cube_0) fun a_1 => (oM.bind (oM.ret face_0) fun a_2 => (t__law_lows a_1 a_2))) fun r_4 => (oM.bind (oM.ret (0 : Nat)) fun r_5 => (oM.lift (ixO r_4 r_5)))) fun d_11 => (oM.bind (oM.bind (oM.bind (oM.ret cube_0) fun a_6 => (oM.bind (oM.ret face_0) fun a_7 => (t__law_highs a_6 a_7))) fun r_9 => (oM.bind (oM.ret (0 : Nat)) fun r_10 => (oM.lift (ixO r_9 r_10)))) fun d_12 => (oM.ret [d_11, d_12]))) fun due_15 =>
 (oM.bind (oM.bind (oM.bind (oM.ret turn_0) fun r_16 => (oM.bind (oM.ret (0 : Nat)) fun r_17 => (oM.lift (some (decide (r_16 = r_17)))))) fun k_18 =>
 (if k_18 then (oM.bind (oM.bind (oM.bind (oM.ret cube_0) fun a_20 => (oM.bind (oM.ret face_0) fun a_21 => (oM.bind (oM.ret (0 : Nat)) fun a_22 => (t_corner_named a_20 a_21 a_22)))) fun d_27 => (oM.bind (oM.bind (oM.ret cube_0) fun a_24 => (oM.bind (oM.ret face_0) fun a_25 => (oM.bind (oM.bind (oM.ret ()) fun r_23 => (oM.lift (some face_0.1))) fun a_26 => (t_corner_named a_24 a_25 a_26)))) fun d_28 => (oM.ret [d_27, d_28]))) fun told_31 =>
 (oM.ret told_31)) else (oM.bind (oM.bind (oM.bind (oM.ret cube_0) fun a_32 => (oM.bind (oM.ret face_0) fun a_33 => (oM.bind (oM.ret (0 : Nat)) fun a_34 => (t_corner_named a_32 a_33 a_34)))) fun d_39 => (oM.bind (oM.bind (oM.ret face_0) fun a_36 => (oM.bind (oM.bind (oM.ret ()) fun r_35 => (oM.lift (some face_0.1))) fun a_37 => (oM.bind (oM.ret cube_0) fun a_38 => (t_corner_named a_38 a_36 a_37)))) fun d_40 => (oM.ret [d_39, d_40]))) fun told_43 =>
 (oM.ret told_43)))) fun s_19 =>
 (oM.bind (oM.ret s_19) fun a_44 => (oM.bind (oM.ret due_15) fun a_45 => (t__law_same_i2 a_44 a_45)))))
def t__law_is_named_right (cube_0 : (List Nat)) (face_0 : (Nat × Nat)) (turn_0 : Nat) : Option Bool :=
 (Option.bind (Option.bind (Option.bind (t__law_lows cube_0 face_0) fun z_3 =>
 (ixO z_3 (0 : Nat))) fun z_13 =>
 (Option.bind (Option.bind (t__law_highs cube_0 face_0) fun z_8 =>
 (ixO z_8 (0 : Nat))) fun z_14 =>
 (some [z_13, z_14]))) fun due_15 =>
 (Option.bind (if (decide (turn_0 = (0 : Nat))) then (Option.bind (Option.bind (t_corner_named cube_0 face_0 (0 : Nat)) fun z_29 =>
 (Option.bind (t_corner_named cube_0 face_0 face_0.1) fun z_30 =>
 (some [z_29, z_30]))) fun told_31 =>
 (some told_31)) else (Option.bind (Option.bind (t_corner_named cube_0 face_0 (0 : Nat)) fun z_41 =>
 (Option.bind (t_corner_named cube_0 face_0 face_0.1) fun z_42 =>
 (some [z_41, z_42]))) fun told_43 =>
 (some told_43))) fun s_19 =>
 (t__law_same_i2 s_19 due_15)))
theorem tq__law_is_named_right : @q__law_is_named_right = @t__law_is_named_right := rfl
def q__law_same_i3 (told_0 : (List (List Nat))) (due_0 : (List (List Nat))) : oM.T Bool :=
 (oM.bind (oM.bind (oM.bind (oM.ret told_0) fun r_1 => (oM.lift (reprO (eL (eT nI)) r_1))) fun r_5 => (oM.bind (oM.bind (oM.ret due_0) fun r_2 => (oM.lift (reprO (eL (eT nI)) r_2))) fun r_6 => (oM.lift (some (decide (r_5 = r_6)))))) fun k_9 => if k_9 then (oM.bind (oM.ret told_0) fun r_7 => (oM.bind (oM.ret due_0) fun r_8 => (oM.lift (some (decide (r_7 = r_8)))))) else (oM.ret false))
def t__law_same_i3 (told_0 : (List (List Nat))) (due_0 : (List (List Nat))) : Option Bool :=
 (Option.bind (Option.bind (reprO (eL (eT nI)) told_0) fun z_3 =>
 (Option.bind (reprO (eL (eT nI)) due_0) fun z_4 =>
 (some (decide (z_3 = z_4))))) fun z_10 =>
 (if z_10 then (some (decide (told_0 = due_0))) else (some false)))
theorem tq__law_same_i3 : @q__law_same_i3 = @t__law_same_i3 := rfl
def q__law_pick_i2 (some_0 : (List Nat)) : wM.T Nat :=
 (wM.bind (wM.bind (wM.ret ()) fun a_2 => (wM.bind (wM.bind (wM.ret some_0) fun r_1 => (wM.lift (some (r_1).length))) fun a_3 => (drawW a_3))) fun r_5 => (wM.lift (ixO some_0 r_5)))
def t__law_pick_i2 (some_0 : (List Nat)) : Wp Nat :=
 (wM.bind (drawW (some_0).length) fun z_4 =>
 (wM.lift (ixO some_0 z_4)))
theorem tq__law_pick_i2 : @q__law_pick_i2 = @t__law_pick_i2 := rfl
def q__law_same_i4 (told_0 : Nat) (due_0 : Nat) : oM.T Bool :=
 (oM.bind (oM.bind (oM.bind (oM.ret told_0) fun r_1 => (oM.lift (reprO nI r_1))) fun r_5 => (oM.bind (oM.bind (oM.ret due_0) fun r_2 => (oM.lift (reprO nI r_2))) fun r_6 => (oM.lift (some (decide (r_5 = r_6)))))) fun k_9 => if k_9 then (oM.bind (oM.ret told_0) fun r_7 => (oM.bind (oM.ret due_0) fun r_8 => (oM.lift (some (decide (r_7 = r_8)))))) else (oM.ret false))
def t__law_same_i4 (told_0 : Nat) (due_0 : Nat) : Option Bool :=
 (Option.bind (Option.bind (reprO nI told_0) fun z_3 =>
 (Option.bind (reprO nI due_0) fun z_4 =>
 (some (decide (z_3 = z_4))))) fun z_10 =>
 (if z_10 then (some (decide (told_0 = due_0))) else (some false)))
theorem tq__law_same_i4 : @q__law_same_i4 = @t__law_same_i4 := rfl
def q__law_is_within_right (cube_0 : (List Nat)) (n_0 : Nat) : wM.T Bool :=
 (wM.bind (wM.bind (wM.bind (wM.ret ()) fun r_1 => (wM.bind (wM.ret n_0) fun r_2 => (wM.lift (if r_2 ≤ 1000000 then some (2 ^ r_2) else none)))) fun r_4 => (wM.bind (wM.ret (1 : Nat)) fun r_5 => (wM.lift (subO r_4 r_5)))) fun full_6 =>
 (wM.bind (wM.bind (wM.bind (wM.bind (wM.ret ()) fun a_7 => (wM.bind (wM.ret (3 : Nat)) fun a_8 => (drawW a_8))) fun r_10 => (wM.bind (wM.ret (0 : Nat)) fun r_11 => (wM.lift (some (decide (r_10 = r_11)))))) fun k_17 => if k_17 then (wM.ret full_6) else (wM.bind (wM.ret ()) fun a_14 => (wM.bind (wM.bind (wM.ret ()) fun r_12 => (wM.bind (wM.ret n_0) fun r_13 => (wM.lift (if r_13 ≤ 1000000 then some (2 ^ r_13) else none)))) fun a_15 => (drawW a_15)))) fun free_19 =>
 (wM.bind (wM.bind (wM.ret free_19) fun d_31 => (wM.bind (wM.bind (wM.bind (wM.ret ()) fun a_22 => (wM.bind (wM.bind (wM.ret ()) fun r_20 => (wM.bind (wM.ret n_0) fun r_21 => (wM.lift (if r_21 ≤ 1000000 then some (2 ^ r_21) else none)))) fun a_23 => (drawW a_23))) fun r_29 => (wM.bind (wM.bind (wM.ret full_6) fun r_25 => (wM.bind (wM.ret free_19) fun r_26 => (wM.lift (subO r_25 r_26)))) fun r_30 => (wM.lift (some (r_29 &&& r_30))))) fun d_32 => (wM.ret (d_31, d_32)))) fun outer_34 =>
 (wM.bind (wM.bind (wM.bind (wM.ret cube_0) fun a_35 => (wM.bind (wM.ret outer_34) fun a_36 => (wM.lift (t__law_lows a_35 a_36)))) fun r_38 => (wM.bind (wM.ret (0 : Nat)) fun r_39 => (wM.lift (ixO r_38 r_39)))) fun low_45 =>
 (wM.bind (wM.bind (wM.bind (wM.ret cube_0) fun a_40 => (wM.bind (wM.ret outer_34) fun a_41 => (wM.lift (t__law_highs a_40 a_41)))) fun r_43 => (wM.bind (wM.ret (0 : Nat)) fun r_44 => (wM.lift (ixO r_43 r_44)))) fun high_46 =>
 (wM.bind (wM.bind (wM.bind (wM.bind (wM.bind (wM.bind (wM.ret cube_0) fun a_47 => (wM.bind (wM.ret outer_34) fun a_48 => (wM.lift (t_low_of a_47 a_48)))) fun d_51 => (wM.bind (wM.bind (wM.ret cube_0) fun a_49 => (wM.bind (wM.ret outer_34) fun a_50 => (wM.lift (t_high_of a_49 a_50)))) fun d_52 => (wM.ret [d_51, d_52]))) fun a_57 => (wM.bind (wM.bind (wM.ret low_45) fun d_55 => (wM.bind (wM.ret high_46) fun d_56 => (wM.ret [d_55, d_56]))) fun a_58 => (wM.lift (t__law_same_i2 a_57 a_58)))) fun r_61 => (wM.ret r_61)) fun r_63 => (wM.ret (!r_63))) fun k_64 =>
 (if k_64 then (wM.ret false) else (wM.bind (wM.bind (wM.bind (wM.bind (wM.ret low_45) fun d_69 => (wM.bind (wM.ret high_46) fun d_70 => (wM.bind (wM.bind (wM.ret ()) fun a_66 => (wM.bind (wM.bind (wM.ret outer_34) fun a_65 => (wM.lift (t__law_corners a_65))) fun a_67 => (t__law_pick_i2 a_67))) fun d_71 => (wM.ret [d_69, d_70, d_71])))) fun r_74 => (wM.ret (enumN r_74))) fun l_158 => foldR wM (fun (s_75 : Unit) x_76 =>
 (wM.bind (wM.ret outer_34) fun inner_77 =>
 (wM.bind (wM.bind (wM.bind (wM.ret (2 : Nat)) fun r_78 => (wM.lift (rgO r_78))) fun l_156 => foldR wM (fun (s_79 : (Nat × Nat)) x_80 =>
 (wM.bind (wM.bind (wM.bind (wM.ret ()) fun r_81 => (wM.lift (some s_79.1))) fun r_97 => (wM.bind (wM.bind (wM.bind (wM.ret ()) fun a_84 => (wM.bind (wM.bind (wM.ret ()) fun r_82 => (wM.bind (wM.ret n_0) fun r_83 => (wM.lift (if r_83 ≤ 1000000 then some (2 ^ r_83) else none)))) fun a_85 => (drawW a_85))) fun r_94 => (wM.bind (wM.bind (wM.ret ()) fun a_89 => (wM.bind (wM.bind (wM.ret ()) fun r_87 => (wM.bind (wM.ret n_0) fun r_88 => (wM.lift (if r_88 ≤ 1000000 then some (2 ^ r_88) else none)))) fun a_90 => (drawW a_90))) fun r_95 => (wM.lift (some (r_94 ||| r_95))))) fun r_98 => (wM.lift (some (r_97 &&& r_98))))) fun some_99 =>
 (wM.bind (wM.bind (wM.ret some_99) fun d_105 => (wM.bind (wM.bind (wM.ret x_76.2) fun r_103 => (wM.bind (wM.bind (wM.ret full_6) fun r_100 => (wM.bind (wM.ret some_99) fun r_101 => (wM.lift (subO r_100 r_101)))) fun r_104 => (wM.lift (some (r_103 &&& r_104))))) fun d_106 => (wM.ret (d_105, d_106)))) fun inner_108 =>
 (wM.bind (wM.bind (wM.bind (wM.ret cube_0) fun a_109 => (wM.bind (wM.ret inner_108) fun a_110 => (wM.lift (t_low_of a_109 a_110)))) fun d_113 => (wM.bind (wM.bind (wM.ret cube_0) fun a_111 => (wM.bind (wM.ret inner_108) fun a_112 => (wM.lift (t_high_of a_111 a_112)))) fun d_114 => (wM.ret [d_113, d_114]))) fun ends_117 =>
 (wM.bind (wM.bind (wM.bind (wM.ret x_76.1) fun r_118 => (wM.bind (wM.ret (2 : Nat)) fun r_119 => (wM.lift (some (decide (r_118 < r_119)))))) fun k_128 => if k_128 then (wM.bind (wM.bind (wM.bind (wM.bind (wM.ret x_76.1) fun r_120 => (wM.lift (ixO ends_117 r_120))) fun a_121 => (wM.bind (wM.ret x_76.2) fun a_122 => (wM.lift (t__law_same_i4 a_121 a_122)))) fun r_125 => (wM.ret r_125)) fun r_127 => (wM.ret (!r_127))) else (wM.ret false)) fun k_129 =>
 (if k_129 then (wM.bind (wM.ret false) fun r_130 => (wM.ret (.inl r_130))) else (wM.bind (wM.bind (wM.bind (wM.bind (wM.ret ends_117) fun a_145 => (wM.bind (wM.bind (wM.bind (wM.bind (wM.ret cube_0) fun a_131 => (wM.bind (wM.ret inner_108) fun a_132 => (wM.lift (t__law_lows a_131 a_132)))) fun r_134 => (wM.bind (wM.ret (0 : Nat)) fun r_135 => (wM.lift (ixO r_134 r_135)))) fun d_141 => (wM.bind (wM.bind (wM.bind (wM.ret cube_0) fun a_136 => (wM.bind (wM.ret inner_108) fun a_137 => (wM.lift (t__law_highs a_136 a_137)))) fun r_139 => (wM.bind (wM.ret (0 : Nat)) fun r_140 => (wM.lift (ixO r_139 r_140)))) fun d_142 => (wM.ret [d_141, d_142]))) fun a_146 => (wM.lift (t__law_same_i2 a_145 a_146)))) fun r_149 => (wM.ret r_149)) fun r_151 => (wM.ret (!r_151))) fun k_152 =>
 (if k_152 then (wM.bind (wM.ret false) fun r_153 => (wM.ret (.inl r_153))) else (wM.ret (.inr inner_108)))))))))) l_156 inner_77) fun z_157 =>
 (Sum.elim (fun x => (wM.ret (.inl x))) (fun s_79 : (Nat × Nat) =>
 (wM.ret (.inr ()))) z_157)))) l_158 ()) fun z_160 =>
 (Sum.elim (fun x => (wM.ret x)) (fun s_75 : Unit =>
 (wM.ret true)) z_160)))))))))
def t__law_is_within_right (cube_0 : (List Nat)) (n_0 : Nat) : Wp Bool :=
 (wM.bind (wM.bind (wM.lift (pow2O n_0)) fun z_3 =>
 (wM.lift (subO z_3 (1 : Nat)))) fun full_6 =>
 (wM.bind (wM.bind (wM.bind (drawW (3 : Nat)) fun z_9 =>
 (wM.ret (decide (z_9 = (0 : Nat))))) fun z_18 =>
 (if z_18 then (wM.ret full_6) else (wM.bind (wM.lift (pow2O n_0)) fun z_16 =>
 (drawW z_16)))) fun free_19 =>
 (wM.bind (wM.bind (wM.bind (wM.bind (wM.lift (pow2O n_0)) fun z_24 =>
 (drawW z_24)) fun z_27 =>
 (wM.bind (wM.lift (subO full_6 free_19)) fun z_28 =>
 (wM.ret (z_27 &&& z_28)))) fun z_33 =>
 (wM.ret (free_19, z_33))) fun outer_34 =>
 (wM.bind (wM.bind (wM.lift (t__law_lows cube_0 outer_34)) fun z_37 =>
 (wM.lift (ixO z_37 (0 : Nat)))) fun low_45 =>
 (wM.bind (wM.bind (wM.lift (t__law_highs cube_0 outer_34)) fun z_42 =>
 (wM.lift (ixO z_42 (0 : Nat)))) fun high_46 =>
 (wM.bind (wM.bind (wM.bind (wM.bind (wM.bind (wM.lift (t_low_of cube_0 outer_34)) fun z_53 =>
 (wM.bind (wM.lift (t_high_of cube_0 outer_34)) fun z_54 =>
 (wM.ret [z_53, z_54]))) fun z_59 =>
 (wM.lift (t__law_same_i2 z_59 [low_45, high_46]))) fun z_60 =>
 (wM.ret z_60)) fun z_62 =>
 (wM.ret (!z_62))) fun z_161 =>
 (if z_161 then (wM.ret false) else (wM.bind (wM.bind (wM.bind (wM.bind (wM.bind (wM.lift (t__law_corners outer_34)) fun z_68 =>
 (t__law_pick_i2 z_68)) fun z_72 =>
 (wM.ret [low_45, high_46, z_72])) fun z_73 =>
 (wM.ret (enumN z_73))) fun z_159 =>
 (foldR wM (fun (s_75 : Unit) x_76 =>
 (wM.bind (wM.ret outer_34) fun inner_77 =>
 (wM.bind (foldR wM (fun (s_79 : (Nat × Nat)) x_80 =>
 (wM.bind (wM.bind (wM.bind (wM.bind (wM.lift (pow2O n_0)) fun z_86 =>
 (drawW z_86)) fun z_92 =>
 (wM.bind (wM.bind (wM.lift (pow2O n_0)) fun z_91 =>
 (drawW z_91)) fun z_93 =>
 (wM.ret (z_92 ||| z_93)))) fun z_96 =>
 (wM.ret (s_79.1 &&& z_96))) fun some_99 =>
 (wM.bind (wM.bind (wM.bind (wM.lift (subO full_6 some_99)) fun z_102 =>
 (wM.ret (x_76.2 &&& z_102))) fun z_107 =>
 (wM.ret (some_99, z_107))) fun inner_108 =>
 (wM.bind (wM.bind (wM.lift (t_low_of cube_0 inner_108)) fun z_115 =>
 (wM.bind (wM.lift (t_high_of cube_0 inner_108)) fun z_116 =>
 (wM.ret [z_115, z_116]))) fun ends_117 =>
 (wM.bind (if (decide (x_76.1 < (2 : Nat))) then (wM.bind (wM.bind (wM.bind (wM.lift (ixO ends_117 x_76.1)) fun z_123 =>
 (wM.lift (t__law_same_i4 z_123 x_76.2))) fun z_124 =>
 (wM.ret z_124)) fun z_126 =>
 (wM.ret (!z_126))) else (wM.ret false)) fun z_155 =>
 (if z_155 then (wM.ret (.inl false)) else (wM.bind (wM.bind (wM.bind (wM.bind (wM.bind (wM.bind (wM.lift (t__law_lows cube_0 inner_108)) fun z_133 =>
 (wM.lift (ixO z_133 (0 : Nat)))) fun z_143 =>
 (wM.bind (wM.bind (wM.lift (t__law_highs cube_0 inner_108)) fun z_138 =>
 (wM.lift (ixO z_138 (0 : Nat)))) fun z_144 =>
 (wM.ret [z_143, z_144]))) fun z_147 =>
 (wM.lift (t__law_same_i2 ends_117 z_147))) fun z_148 =>
 (wM.ret z_148)) fun z_150 =>
 (wM.ret (!z_150))) fun z_154 =>
 (if z_154 then (wM.ret (.inl false)) else (wM.ret (.inr inner_108)))))))))) (List.range (2 : Nat)) inner_77) fun z_157 =>
 (Sum.elim (fun x => (wM.ret (.inl x))) (fun s_79 : (Nat × Nat) =>
 (wM.ret (.inr ()))) z_157)))) z_159 ())) fun z_160 =>
 (Sum.elim (fun x => (wM.ret x)) (fun s_75 : Unit =>
 (wM.ret true)) z_160)))))))))
theorem tq__law_is_within_right : @q__law_is_within_right = @t__law_is_within_right := rfl
def q_ways_number (arrows_0 : (List Nat)) : oM.T Nat :=
 (oM.bind (oM.bind (oM.bind (oM.ret arrows_0) fun r_1 => (oM.lift (some (r_1).length))) fun r_2 => (oM.lift (some (bitsN r_2)))) fun r_3 => (oM.bind (oM.ret (1 : Nat)) fun r_4 => (oM.lift (subO r_3 r_4))))
def t_ways_number (arrows_0 : (List Nat)) : Option Nat :=
 (subO (bitsN (arrows_0).length) (1 : Nat))
theorem tq_ways_number : @q_ways_number = @t_ways_number := rfl
def q_lows_had (cube_0 : (List Nat)) : oM.T (List Nat) :=
 (oM.bind (oM.bind (oM.ret cube_0) fun a_1 => (t_ways_number a_1)) fun n_2 =>
 (oM.bind (oM.bind (oM.ret cube_0) fun l_11 => oM.bind (oM.lift (szO l_11)) fun l_12 => compT oM (fun x_3 => (oM.ret true)) (fun x_3 => (oM.bind (oM.ret ()) fun r_9 => (oM.bind (oM.bind (oM.ret n_2) fun r_6 => (oM.bind (oM.bind (oM.ret x_3) fun a_4 => (t_bits_number a_4)) fun r_7 => (oM.lift (subO r_6 r_7)))) fun r_10 => (oM.lift (if r_10 ≤ 1000000 then some (2 ^ r_10) else none))))) l_12) fun r_14 => (oM.lift (some r_14))))
def t_lows_had (cube_0 : (List Nat)) : Option (List Nat) :=
 (Option.bind (t_ways_number cube_0) fun n_2 =>
 (Option.bind (Option.bind (szO cube_0) fun l_12 =>
 (compT oM (fun x_3 => (some true)) (fun x_3 => (Option.bind (Option.bind (t_bits_number x_3) fun z_5 =>
 (subO n_2 z_5)) fun z_8 =>
 (pow2O z_8))) l_12)) fun z_13 =>
 (some z_13)))
theorem tq_lows_had : @q_lows_had = @t_lows_had := rfl
def q__law_same_i5 (told_0 : (List Nat)) (due_0 : (List Nat)) : oM.T Bool :=
 (oM.bind (oM.bind (oM.bind (oM.ret told_0) fun r_1 => (oM.lift (reprO (eT nI) r_1))) fun r_5 => (oM.bind (oM.bind (oM.ret due_0) fun r_2 => (oM.lift (reprO (eT nI) r_2))) fun r_6 => (oM.lift (some (decide (r_5 = r_6)))))) fun k_9 => if k_9 then (oM.bind (oM.ret told_0) fun r_7 => (oM.bind (oM.ret due_0) fun r_8 => (oM.lift (some (decide (r_7 = r_8)))))) else (oM.ret false))
def t__law_same_i5 (told_0 : (List Nat)) (due_0 : (List Nat)) : Option Bool :=
 (Option.bind (Option.bind (reprO (eT nI) told_0) fun z_3 =>
 (Option.bind (reprO (eT nI) due_0) fun z_4 =>
 (some (decide (z_3 = z_4))))) fun z_10 =>
 (if z_10 then (some (decide (told_0 = due_0))) else (some false)))
theorem tq__law_same_i5 : @q__law_same_i5 = @t__law_same_i5 := rfl
def q__law_is_had_right (cube_0 : (List Nat)) (n_0 : Nat) (turn_0 : Nat) : oM.T Bool :=
 (oM.bind (oM.bind (oM.bind (oM.ret cube_0) fun l_9 => oM.bind (oM.lift (szO l_9)) fun l_10 => compT oM (fun x_1 => (oM.ret true)) (fun x_1 => (oM.bind (oM.ret ()) fun r_7 => (oM.bind (oM.bind (oM.ret n_0) fun r_4 => (oM.bind (oM.bind (oM.ret x_1) fun a_2 => (t__law_many a_2)) fun r_5 => (oM.lift (subO r_4 r_5)))) fun r_8 => (oM.lift (if r_8 ≤ 1000000 then some (2 ^ r_8) else none))))) l_10) fun r_12 => (oM.lift (some r_12))) fun due_13 =>
 (oM.bind (oM.bind (oM.bind (oM.ret turn_0) fun r_14 => (oM.bind (oM.ret (0 : Nat)) fun r_15 => (oM.lift (some (decide (r_14 = r_15)))))) fun k_18 => if k_18 then (oM.bind (oM.ret cube_0) fun a_16 => (t_lows_had a_16)) else (oM.bind (oM.ret cube_0) fun a_17 => (t_lows_had a_17))) fun told_19 =>
 (oM.bind (oM.ret (1 : Nat)) fun faces_20 =>
 (oM.bind (oM.bind (oM.bind (oM.ret n_0) fun r_21 => (oM.lift (rgO r_21))) fun l_27 => foldT oM (fun (s_22 : Nat) x_23 =>
 (oM.bind (oM.bind (oM.ret s_22) fun r_24 => (oM.bind (oM.ret ()) fun r_25 => (oM.lift (some (r_24 * 3))))) fun faces_26 =>
 (oM.ret faces_26))) l_27 faces_20) fun s_22 =>
 (oM.bind (oM.bind (oM.ret told_19) fun a_29 => (oM.bind (oM.ret due_13) fun a_30 => (t__law_same_i5 a_29 a_30))) fun k_34 => if k_34 then (oM.bind (oM.bind (oM.ret told_19) fun r_31 => (oM.lift (some (r_31).sum))) fun r_32 => (oM.bind (oM.ret s_22) fun r_33 => (oM.lift (some (decide (r_32 = r_33)))))) else (oM.ret false))))))
def t__law_is_had_right (cube_0 : (List Nat)) (n_0 : Nat) (turn_0 : Nat) : Option Bool :=
 (Option.bind (Option.bind (Option.bind (szO cube_0) fun l_10 =>
 (compT oM (fun x_1 => (some true)) (fun x_1 => (Option.bind (Option.bind (t__law_many x_1) fun z_3 =>
 (subO n_0 z_3)) fun z_6 =>
 (pow2O z_6))) l_10)) fun z_11 =>
 (some z_11)) fun due_13 =>
 (Option.bind (if (decide (turn_0 = (0 : Nat))) then (t_lows_had cube_0) else (t_lows_had cube_0)) fun told_19 =>
 (Option.bind (some (1 : Nat)) fun faces_20 =>
 (Option.bind (Option.bind (rgO n_0) fun z_28 =>
 (foldT oM (fun (s_22 : Nat) x_23 =>
 (Option.bind (some (s_22 * 3)) fun faces_26 =>
 (some faces_26))) z_28 faces_20)) fun s_22 =>
 (Option.bind (t__law_same_i5 told_19 due_13) fun z_35 =>
 (if z_35 then (some (decide ((told_19).sum = s_22))) else (some false)))))))
theorem tq__law_is_had_right : @q__law_is_had_right = @t__law_is_had_right := rfl
def q_law : wM.T Bool :=
 (wM.bind (wM.bind (wM.ret ()) fun a_1 => t__law_size) fun n_2 =>
 (wM.bind (wM.bind (wM.bind (wM.ret ()) fun a_3 => (wM.bind (wM.ret n_2) fun a_4 => (t__law_good a_4))) fun d_5 => (wM.ret [d_5])) fun cubes_7 =>
 (wM.bind (wM.bind (wM.bind (wM.ret n_2) fun r_8 => (wM.bind (wM.ret (4 : Nat)) fun r_9 => (wM.lift (some (decide (r_9 < r_8)))))) fun k_18 => if k_18 then (wM.ret true) else (wM.bind (wM.bind (wM.ret n_2) fun r_10 => (wM.bind (wM.ret (0 : Nat)) fun r_11 => (wM.lift (some (decide (r_11 < r_10)))))) fun k_17 => if k_17 then (wM.bind (wM.bind (wM.ret ()) fun a_12 => (wM.bind (wM.ret (2 : Nat)) fun a_13 => (drawW a_13))) fun r_15 => (wM.bind (wM.ret (0 : Nat)) fun r_16 => (wM.lift (some (decide (r_15 = r_16)))))) else (wM.ret false))) fun is_near_19 =>
 (wM.bind (wM.bind (wM.bind (wM.bind (wM.ret is_near_19) fun r_20 => (wM.ret r_20)) fun k_28 => if k_28 then (wM.bind (wM.ret ()) fun a_22 => (wM.bind (wM.bind (wM.ret (0 : Nat)) fun r_21 => (wM.lift (ixO cubes_7 r_21))) fun a_23 => (wM.bind (wM.ret n_2) fun a_24 => (t__law_class_turned a_23 a_24)))) else (wM.bind (wM.ret ()) fun a_26 => (wM.bind (wM.ret n_2) fun a_27 => (t__law_good a_27)))) fun r_31 => (wM.lift (pushO cubes_7 r_31))) fun cubes_29 =>
 (wM.bind (wM.bind (wM.ret ()) fun a_32 => (wM.bind (wM.ret n_2) fun a_33 => (t__law_arrows a_33))) fun arrows_36 =>
 (wM.bind (wM.bind (wM.ret ()) fun a_34 => (wM.bind (wM.ret n_2) fun a_35 => (t__law_faces a_35))) fun faces_37 =>
 (wM.bind (wM.bind (wM.bind (wM.ret faces_37) fun r_38 => (wM.ret (enumN r_38))) fun l_95 => foldR wM (fun (s_39 : Unit) x_40 =>
 (wM.bind (wM.bind (wM.ret cubes_29) fun l_66 => foldR wM (fun (s_41 : Unit) x_42 =>
 (wM.bind (wM.bind (wM.bind (wM.bind (wM.bind (wM.ret x_42) fun a_45 => (wM.bind (wM.ret x_40.2) fun a_46 => (wM.bind (wM.bind (wM.ret x_40.1) fun r_43 => (wM.bind (wM.ret (1 : Nat)) fun r_44 => (wM.lift (some (r_43 &&& r_44))))) fun a_47 => (wM.lift (t__law_is_face_right a_45 a_46 a_47))))) fun r_49 => (wM.ret r_49)) fun r_51 => (wM.ret (!r_51))) fun k_61 => if k_61 then (wM.ret true) else (wM.bind (wM.bind (wM.bind (wM.ret x_42) fun a_54 => (wM.bind (wM.ret x_40.2) fun a_55 => (wM.bind (wM.bind (wM.ret x_40.1) fun r_52 => (wM.bind (wM.ret (1 : Nat)) fun r_53 => (wM.lift (some (r_52 &&& r_53))))) fun a_56 => (wM.lift (t__law_is_named_right a_54 a_55 a_56))))) fun r_58 => (wM.ret r_58)) fun r_60 => (wM.ret (!r_60)))) fun k_63 =>
 (if k_63 then (wM.bind (wM.ret false) fun r_64 => (wM.ret (.inl r_64))) else (wM.ret (.inr ()))))) l_66 ()) fun z_94 =>
 (Sum.elim (fun x => (wM.ret (.inl x))) (fun s_41 : Unit =>
 (wM.bind (wM.bind (wM.bind (wM.ret arrows_36) fun a_67 => (wM.bind (wM.ret x_40.2) fun a_68 => (wM.lift (t_low_corners a_67 a_68)))) fun d_71 => (wM.bind (wM.bind (wM.ret arrows_36) fun a_69 => (wM.bind (wM.ret x_40.2) fun a_70 => (wM.lift (t_high_corners a_69 a_70)))) fun d_72 => (wM.ret [d_71, d_72]))) fun told_75 =>
 (wM.bind (wM.bind (wM.bind (wM.bind (wM.ret told_75) fun a_84 => (wM.bind (wM.bind (wM.bind (wM.ret arrows_36) fun a_76 => (wM.bind (wM.ret x_40.2) fun a_77 => (wM.lift (t__law_lows a_76 a_77)))) fun d_80 => (wM.bind (wM.bind (wM.ret arrows_36) fun a_78 => (wM.bind (wM.ret x_40.2) fun a_79 => (wM.lift (t__law_highs a_78 a_79)))) fun d_81 => (wM.ret [d_80, d_81]))) fun a_85 => (wM.lift (t__law_same_i3 a_84 a_85)))) fun r_88 => (wM.ret r_88)) fun r_90 => (wM.ret (!r_90))) fun k_91 =>
 (if k_91 then (wM.bind (wM.ret false) fun r_92 => (wM.ret (.inl r_92))) else (wM.ret (.inr ())))))) z_94))) l_95 ()) fun z_175 =>
 (Sum.elim (fun x => (wM.ret x)) (fun s_39 : Unit =>
 (wM.bind (wM.bind (wM.bind (wM.ret (3 : Nat)) fun r_96 => (wM.lift (rgO r_96))) fun l_113 => foldR wM (fun (s_97 : Unit) x_98 =>
 (wM.bind (wM.bind (wM.bind (wM.bind (wM.ret ()) fun a_102 => (wM.bind (wM.bind (wM.bind (wM.ret x_98) fun r_99 => (wM.bind (wM.ret (1 : Nat)) fun r_100 => (wM.lift (some (r_99 &&& r_100))))) fun r_101 => (wM.lift (ixO cubes_29 r_101))) fun a_103 => (wM.bind (wM.ret n_2) fun a_104 => (t__law_is_within_right a_103 a_104)))) fun r_107 => (wM.ret r_107)) fun r_109 => (wM.ret (!r_109))) fun k_110 =>
 (if k_110 then (wM.bind (wM.ret false) fun r_111 => (wM.ret (.inl r_111))) else (wM.ret (.inr ()))))) l_113 ()) fun z_174 =>
 (Sum.elim (fun x => (wM.ret x)) (fun s_97 : Unit =>
 (wM.bind (wM.bind (wM.bind (wM.bind (wM.bind (wM.ret n_2) fun r_114 => (wM.bind (wM.ret (5 : Nat)) fun r_115 => (wM.lift (some (decide (r_114 < r_115)))))) fun k_120 => if k_120 then (wM.ret cubes_29) else (wM.bind (wM.ret cubes_29) fun r_117 => (wM.bind (wM.ret (none : Option Int)) fun r_118 => (wM.bind (wM.bind (wM.ret (1 : Nat)) fun r_116 => (wM.ret (some (r_116 : Int)))) fun r_119 => (wM.ret (cutN r_117 r_118 r_119)))))) fun r_122 => (wM.ret (enumN r_122))) fun l_150 => foldR wM (fun (s_123 : Unit) x_124 =>
 (wM.bind (wM.bind (wM.bind (wM.bind (wM.bind (wM.ret x_124.2) fun a_125 => (wM.bind (wM.ret n_2) fun a_126 => (wM.bind (wM.ret x_124.1) fun a_127 => (wM.lift (t__law_is_had_right a_125 a_126 a_127))))) fun r_129 => (wM.ret r_129)) fun r_131 => (wM.ret (!r_131))) fun k_145 => if k_145 then (wM.ret true) else (wM.bind (wM.bind (wM.ret n_2) fun r_132 => (wM.bind (wM.ret (4 : Nat)) fun r_133 => (wM.lift (some (decide (r_132 < r_133)))))) fun k_144 => if k_144 then (wM.bind (wM.bind (wM.bind (wM.ret x_124.2) fun a_136 => (wM.bind (wM.ret n_2) fun a_137 => (wM.bind (wM.bind (wM.ret (1 : Nat)) fun r_134 => (wM.bind (wM.ret x_124.1) fun r_135 => (wM.lift (subO r_134 r_135)))) fun a_138 => (wM.lift (t__law_is_had_right a_136 a_137 a_138))))) fun r_141 => (wM.ret r_141)) fun r_143 => (wM.ret (!r_143))) else (wM.ret false))) fun k_147 =>
 (if k_147 then (wM.bind (wM.ret false) fun r_148 => (wM.ret (.inl r_148))) else (wM.ret (.inr ()))))) l_150 ()) fun z_173 =>
 (Sum.elim (fun x => (wM.ret x)) (fun s_123 : Unit =>
 (wM.bind (wM.bind (wM.bind (wM.bind (wM.ret (0 : Nat)) fun r_152 => (wM.lift (ixO faces_37 r_152))) fun d_158 => (wM.bind (wM.bind (wM.bind (wM.bind (wM.ret faces_37) fun r_153 => (wM.lift (some (r_153).length))) fun r_154 => (wM.bind (wM.ret (1 : Nat)) fun r_155 => (wM.lift (subO r_154 r_155)))) fun r_157 => (wM.lift (ixO faces_37 r_157))) fun d_159 => (wM.ret [d_158, d_159]))) fun l_168 => wM.bind (wM.lift (szO l_168)) fun l_169 => compT wM (fun x_162 => (wM.ret true)) (fun x_162 => (wM.bind (wM.bind (wM.ret (0 : Nat)) fun r_163 => (wM.lift (ixO cubes_29 r_163))) fun a_164 => (wM.bind (wM.ret x_162) fun a_165 => (wM.bind (wM.ret (0 : Nat)) fun a_166 => (wM.lift (t__law_is_face_right a_164 a_165 a_166)))))) l_169) fun r_172 => (wM.lift (some ((r_172).all id))))) z_173))) z_174))) z_175))))))))
def t_law : Wp Bool :=
 (wM.bind t__law_size fun n_2 =>
 (wM.bind (wM.bind (t__law_good n_2) fun z_6 =>
 (wM.ret [z_6])) fun cubes_7 =>
 (wM.bind (if (decide ((4 : Nat) < n_2)) then (wM.ret true) else (if (decide ((0 : Nat) < n_2)) then (wM.bind (drawW (2 : Nat)) fun z_14 =>
 (wM.ret (decide (z_14 = (0 : Nat))))) else (wM.ret false))) fun is_near_19 =>
 (wM.bind (wM.bind (if is_near_19 then (wM.bind (wM.lift (ixO cubes_7 (0 : Nat))) fun z_25 =>
 (t__law_class_turned z_25 n_2)) else (t__law_good n_2)) fun z_30 =>
 (wM.lift (pushO cubes_7 z_30))) fun cubes_29 =>
 (wM.bind (t__law_arrows n_2) fun arrows_36 =>
 (wM.bind (t__law_faces n_2) fun faces_37 =>
 (wM.bind (foldR wM (fun (s_39 : Unit) x_40 =>
 (wM.bind (foldR wM (fun (s_41 : Unit) x_42 =>
 (wM.bind (wM.bind (wM.bind (wM.bind (wM.lift (t__law_is_face_right x_42 x_40.2 (x_40.1 &&& (1 : Nat)))) fun z_48 =>
 (wM.ret z_48)) fun z_50 =>
 (wM.ret (!z_50))) fun z_62 =>
 (if z_62 then (wM.ret true) else (wM.bind (wM.bind (wM.lift (t__law_is_named_right x_42 x_40.2 (x_40.1 &&& (1 : Nat)))) fun z_57 =>
 (wM.ret z_57)) fun z_59 =>
 (wM.ret (!z_59))))) fun z_65 =>
 (if z_65 then (wM.ret (.inl false)) else (wM.ret (.inr ()))))) cubes_29 ()) fun z_94 =>
 (Sum.elim (fun x => (wM.ret (.inl x))) (fun s_41 : Unit =>
 (wM.bind (wM.bind (wM.lift (t_low_corners arrows_36 x_40.2)) fun z_73 =>
 (wM.bind (wM.lift (t_high_corners arrows_36 x_40.2)) fun z_74 =>
 (wM.ret [z_73, z_74]))) fun told_75 =>
 (wM.bind (wM.bind (wM.bind (wM.bind (wM.bind (wM.lift (t__law_lows arrows_36 x_40.2)) fun z_82 =>
 (wM.bind (wM.lift (t__law_highs arrows_36 x_40.2)) fun z_83 =>
 (wM.ret [z_82, z_83]))) fun z_86 =>
 (wM.lift (t__law_same_i3 told_75 z_86))) fun z_87 =>
 (wM.ret z_87)) fun z_89 =>
 (wM.ret (!z_89))) fun z_93 =>
 (if z_93 then (wM.ret (.inl false)) else (wM.ret (.inr ())))))) z_94))) (enumN faces_37) ()) fun z_175 =>
 (Sum.elim (fun x => (wM.ret x)) (fun s_39 : Unit =>
 (wM.bind (foldR wM (fun (s_97 : Unit) x_98 =>
 (wM.bind (wM.bind (wM.bind (wM.bind (wM.lift (ixO cubes_29 (x_98 &&& (1 : Nat)))) fun z_105 =>
 (t__law_is_within_right z_105 n_2)) fun z_106 =>
 (wM.ret z_106)) fun z_108 =>
 (wM.ret (!z_108))) fun z_112 =>
 (if z_112 then (wM.ret (.inl false)) else (wM.ret (.inr ()))))) (List.range (3 : Nat)) ()) fun z_174 =>
 (Sum.elim (fun x => (wM.ret x)) (fun s_97 : Unit =>
 (wM.bind (wM.bind (wM.bind (if (decide (n_2 < (5 : Nat))) then (wM.ret cubes_29) else (wM.ret (cutN cubes_29 none (some (((1 : Nat) : Nat) : Int))))) fun z_121 =>
 (wM.ret (enumN z_121))) fun z_151 =>
 (foldR wM (fun (s_123 : Unit) x_124 =>
 (wM.bind (wM.bind (wM.bind (wM.bind (wM.lift (t__law_is_had_right x_124.2 n_2 x_124.1)) fun z_128 =>
 (wM.ret z_128)) fun z_130 =>
 (wM.ret (!z_130))) fun z_146 =>
 (if z_146 then (wM.ret true) else (if (decide (n_2 < (4 : Nat))) then (wM.bind (wM.bind (wM.bind (wM.lift (subO (1 : Nat) x_124.1)) fun z_139 =>
 (wM.lift (t__law_is_had_right x_124.2 n_2 z_139))) fun z_140 =>
 (wM.ret z_140)) fun z_142 =>
 (wM.ret (!z_142))) else (wM.ret false)))) fun z_149 =>
 (if z_149 then (wM.ret (.inl false)) else (wM.ret (.inr ()))))) z_151 ())) fun z_173 =>
 (Sum.elim (fun x => (wM.ret x)) (fun s_123 : Unit =>
 (wM.bind (wM.bind (wM.bind (wM.lift (ixO faces_37 (0 : Nat))) fun z_160 =>
 (wM.bind (wM.bind (wM.lift (subO (faces_37).length (1 : Nat))) fun z_156 =>
 (wM.lift (ixO faces_37 z_156))) fun z_161 =>
 (wM.ret [z_160, z_161]))) fun z_170 =>
 (wM.bind (wM.lift (szO z_170)) fun l_169 =>
 (compT wM (fun x_162 => (wM.ret true)) (fun x_162 => (wM.bind (wM.lift (ixO cubes_29 (0 : Nat))) fun z_167 =>
 (wM.lift (t__law_is_face_right z_167 x_162 (0 : Nat))))) l_169))) fun z_171 =>
 (wM.ret ((z_171).all id)))) z_173))) z_174))) z_175))))))))
theorem tq_law : @q_law = @t_law := rfl
end Cw
namespace Cw
open PySem PySem.Spec PyProof.Rows L2 PL
/-! tables -/
theorem bits_t : (List.range 64).map t_bits_number = mapR (fun x => some (popN x)) (List.range 64) := by kernel_rfl
theorem bits_n {x : Nat} (h : x < 64) : t_bits_number x = some (popN x) := map_pt bits_t x (List.mem_range.mpr h)
theorem many_t : (List.range 64).map t__law_many = mapR (fun x => some (popN x)) (List.range 64) := by kernel_rfl
theorem many_n {x : Nat} (h : x < 64) : t__law_many x = some (popN x) := map_pt many_t x (List.mem_range.mpr h)
theorem subs_t : (List.range 64).map t_subsets_of = mapR (fun x => some (subsN x)) (List.range 64) := by kernel_rfl
theorem subs_n {x : Nat} (h : x < 64) : t_subsets_of x = some (subsN x) := map_pt subs_t x (List.mem_range.mpr h)
def allF : List (Nat × Nat) := (List.range 64).flatMap fun f => ((List.range 64).filter fun c => f &&& c == 0).map fun c => (f, c)
theorem face_allF {n : Nat} {p : Nat × Nat} (hn : n ≤ 6) (F : Face n p) : p ∈ allF := by
  have h64 : 2 ^ n ≤ 2 ^ 6 := Nat.pow_le_pow_right (by decide) hn
  have h1 := F.f
  have h2 := F.c
  exact List.mem_flatMap.mpr ⟨p.1, List.mem_range.mpr (by omega), List.mem_map.mpr ⟨p.2, List.mem_filter.mpr ⟨List.mem_range.mpr (by omega), by simpa using F.z⟩, rfl⟩⟩
theorem corn_t : allF.map t__law_corners = mapR (fun p => some (cornN p)) allF := by kernel_rfl
theorem corn_n {n : Nat} {p : Nat × Nat} (hn : n ≤ 6) (F : Face n p) : t__law_corners p = some (cornN p) := map_pt corn_t p (face_allF hn F)
theorem corn_len (p : Nat × Nat) : (cornN p).length ≤ 64 := by
  unfold cornN subsN
  rw [List.length_map]
  exact Nat.le_trans (List.length_filter_le _ _) (by simp)
theorem fc_n {n : Nat} {p : Nat × Nat} (hn : n ≤ 6) (F : Face n p) : t_face_corners p = some (cornN p) := by
  have h64 : 2 ^ n ≤ 2 ^ 6 := Nat.pow_le_pow_right (by decide) hn
  have h1 := F.f
  unfold t_face_corners
  have hl := corn_len p
  unfold cornN at hl
  rw [List.length_map] at hl
  rw [subs_n (by omega), ob_some, sz_ok (by omega), ob_some, comp_m (fun s => p.2 ||| s) (fun s _ => by rfl)]
  rfl
def binN (k : Nat) : List Nat := (List.range (k + 1)).map fun j => (subsN (2 ^ k - 1)).countP fun s => popN s == j
theorem bin_t : (List.range 7).map t__law_binomials = mapR (fun k => some (binN k)) (List.range 7) := by kernel_rfl
theorem bin_n {k : Nat} (h : k ≤ 6) : t__law_binomials k = some (binN k) := map_pt bin_t k (List.mem_range.mpr (by omega))
theorem bin_all : (List.range 64).all (fun f => (List.range (popN f + 1)).map (fun j => (subsN f).countP fun s => popN s == j) == binN (popN f)) = true := by decide +kernel
theorem pop_le : (List.range 64).all (fun f => decide (popN f ≤ 6) && (subsN f).all fun s => decide (popN s ≤ popN f)) = true := by decide +kernel
end Cw
namespace Cw
open PySem PySem.Spec PyProof.Rows L2 PL
theorem p64 {n : Nat} (hn : n ≤ 6) : 2 ^ n ≤ 64 := by
  have : 2 ^ n ≤ 2 ^ 6 := Nat.pow_le_pow_right (by decide) hn
  exact this
theorem pop6 {f : Nat} (h : f < 64) : popN f ≤ 6 := by
  have := List.all_eq_true.mp pop_le f (List.mem_range.mpr h)
  simp only [Bool.and_eq_true, decide_eq_true_eq] at this
  exact this.1
theorem pop_sub {f s : Nat} (h : f < 64) (hs : s ∈ subsN f) : popN s ≤ popN f := by
  have := List.all_eq_true.mp pop_le f (List.mem_range.mpr h)
  simp only [Bool.and_eq_true, decide_eq_true_eq, List.all_eq_true] at this
  exact this.2 s hs
/-- the corners of a face whose sets, cut by free, are w -/
def atN (cs : List Nat) (p : Nat × Nat) (w : Nat) : List Nat := (cornN p).filter fun v => cs.getD v 0 &&& p.1 == w
section
variable {n : Nat} {cs : List Nat} {p : Nat × Nat}
theorem lows_n (hn : n ≤ 6) (hl : cs.length = 2 ^ n) (F : Face n p) : t__law_lows cs p = some (atN cs p 0) := by
  unfold t__law_lows
  have := corn_len p
  rw [corn_n hn F, ob_some, sz_ok (by omega), ob_some, comp_f (fun v => cs.getD v 0 &&& p.1 == 0) (fun v hv => by
    rw [ix_getD (d := 0) (by rw [hl]; exact corn_lt F hv)]; rfl)]
  rfl
theorem highs_n (hn : n ≤ 6) (hl : cs.length = 2 ^ n) (F : Face n p) : t__law_highs cs p = some (atN cs p p.1) := by
  unfold t__law_highs
  have := corn_len p
  rw [corn_n hn F, ob_some, sz_ok (by omega), ob_some, comp_f (fun v => cs.getD v 0 &&& p.1 == p.1) (fun v hv => by
    rw [ix_getD (d := 0) (by rw [hl]; exact corn_lt F hv)]; rfl)]
  rfl
theorem lowc_n (hn : n ≤ 6) (hl : cs.length = 2 ^ n) (F : Face n p) : t_low_corners cs p = some (atN cs p 0) := by
  unfold t_low_corners
  have := corn_len p
  rw [fc_n hn F, ob_some, sz_ok (by omega), ob_some, comp_f (fun v => cs.getD v 0 &&& p.1 == 0) (fun v hv => by
    rw [ix_getD (d := 0) (by rw [hl]; exact corn_lt F hv)]; rfl)]
  rfl
theorem highc_n (hn : n ≤ 6) (hl : cs.length = 2 ^ n) (F : Face n p) : t_high_corners cs p = some (atN cs p p.1) := by
  unfold t_high_corners
  have := corn_len p
  rw [fc_n hn F, ob_some, sz_ok (by omega), ob_some, comp_f (fun v => cs.getD v 0 &&& p.1 == p.1) (fun v hv => by
    rw [ix_getD (d := 0) (by rw [hl]; exact corn_lt F hv)]; rfl)]
  rfl
theorem named_n (hn : n ≤ 6) (hl : cs.length = 2 ^ n) (F : Face n p) {w x : Nat} {r : List Nat} (hw : w &&& p.1 = w) (hx : atN cs p w = x :: r) : t_corner_named cs p w = some x := by
  unfold t_corner_named
  have := corn_len p
  have h0 : w - (w &&& p.1) = 0 := by omega
  simp only [h0, decide_true, Bool.not_true, Bool.false_eq_true, if_false, fc_n hn F, ob_some]
  rw [sz_ok (by omega), ob_some, comp_f (fun v => cs.getD v 0 &&& p.1 == w) (fun v hv => by
    rw [ix_getD (d := 0) (by rw [hl]; exact corn_lt F hv)]; rfl), show (cornN p).filter (fun v => cs.getD v 0 &&& p.1 == w) = x :: r from hx]
  rfl
theorem at_mem {w x : Nat} (h : x ∈ atN cs p w) : x ∈ cornN p ∧ cs.getD x 0 &&& p.1 = w := by
  obtain ⟨h1, h2⟩ := List.mem_filter.mp h
  exact ⟨h1, by simpa using h2⟩
/-- the only corner -/
theorem at_one (A : Apart n cs) (hn : n ≤ 6) (F : Face n p) {w x : Nat} (hw : w &&& p.1 = w) (hx : x ∈ cornN p) (he : cs.getD x 0 &&& p.1 = w) : atN cs p w = [x] := by
  obtain ⟨y, hy⟩ := named_one A hn F hw
  have : x ∈ (cornN p).filter (fun v => cs.getD v 0 &&& p.1 == w) := List.mem_filter.mpr ⟨hx, by simpa using he⟩
  rw [hy] at this
  have : x = y := by simpa using this
  subst this
  exact hy
theorem count_fold : ∀ (l : List Nat) (k : Nat) (s : List Nat), s.length = k → (∀ v ∈ l, v < k) → Op (foldT oM (fun (s_12 : List Nat) x => Option.bind (some x) fun many_21 => (Option.bind (Option.bind (Option.bind (ixO s_12 many_21) fun z_23 => (some (z_23 + (1 : Nat)))) fun z_27 => (setO s_12 many_21 z_27)) fun found_26 => (some found_26))) l s) (fun r => r.length = k ∧ ∀ j, j < k → r.getD j 0 = s.getD j 0 + l.count j)
  | [], k, s, hs, _ => op_some ⟨hs, fun j _ => by simp⟩
  | v :: l, k, s, hs, h => by
    have hv := h v (List.mem_cons_self ..)
    show Op (Option.bind (Option.bind (Option.bind (Option.bind (ixO s v) fun z_23 => (some (z_23 + (1 : Nat)))) fun z_27 => (setO s v z_27)) fun found_26 => (some found_26)) fun s' => foldT oM _ l s') _
    rw [ix_getD (d := 0) (by omega), ob_some, ob_some, set_ok (by omega), ob_some, ob_some]
    refine op_mono (count_fold l k _ (by rw [List.length_set]; exact hs) fun x hx => h x (List.mem_cons_of_mem _ hx)) fun r ⟨a, b⟩ => ⟨a, fun j hj => ?_⟩
    rw [b j hj, List.count_cons, List.getD_eq_getElem?_getD]
    by_cases e : v = j
    · subst e
      rw [List.getElem?_set_self (by omega)]
      simp only [Option.getD_some, beq_self_eq_true, if_true]
      omega
    · rw [List.getElem?_set_ne e, ← List.getD_eq_getElem?_getD]
      simp [e]
theorem fold_map {α β σ : Type} (f : α → β) (u : σ → β → Option σ) : ∀ (l : List α) (s : σ), foldT oM (fun s x => u s (f x)) l s = foldT oM u (l.map f) s
  | [], s => rfl
  | x :: l, s => by
    show Option.bind (u s (f x)) _ = Option.bind (u s (f x)) _
    cases u s (f x) with
    | none => rfl
    | some s' => exact fold_map f u l s'
theorem fold_cong {α σ : Type} {u v : σ → α → Option σ} : ∀ {l : List α} (s : σ), (∀ s, ∀ x ∈ l, u s x = v s x) → foldT oM u l s = foldT oM v l s
  | [], s, _ => rfl
  | x :: l, s, h => by
    show Option.bind (u s x) _ = Option.bind (v s x) _
    rw [h s x (List.mem_cons_self ..)]
    cases v s x with
    | none => rfl
    | some s' => exact fold_cong s' fun s y hy => h s y (List.mem_cons_of_mem _ hy)
theorem count_pop (l : List Nat) (j : Nat) : (l.map popN).count j = l.countP fun s => popN s == j := by
  induction l with
  | nil => rfl
  | cons x l ih => rw [List.map_cons, List.count_cons, List.countP_cons, ih]
theorem counts_n (A : Apart n cs) (hn : n ≤ 6) (F : Face n p) : t_leaving_counts cs p = some (binN (popN p.1)) := by
  have h64 := p64 hn
  have hf := F.f
  have hf64 : p.1 < 64 := by omega
  have h6 := pop6 hf64
  have hp := face_perm A hn F
  have hsub : ∀ v ∈ cornN p, cs.getD v 0 &&& p.1 ∈ subsN p.1 := fun v hv => hp.mem_iff.mp (List.mem_map.mpr ⟨v, hv, rfl⟩)
  have hlt : ∀ v ∈ cornN p, cs.getD v 0 &&& p.1 < 64 := fun v hv => by
    have := hsub v hv
    exact List.mem_range.mp (List.mem_filter.mp this).1
  unfold t_leaving_counts
  rw [bits_n hf64, ob_some, ob_some]
  have hrep : repO [(0 : Nat)] (popN p.1 + 1) = some (List.replicate (popN p.1 + 1) 0) := by
    unfold repO
    rw [if_pos (by simp; omega)]
    congr 1
    generalize popN p.1 + 1 = k
    induction k with
    | zero => rfl
    | succ k ih => rw [List.replicate_succ, List.flatten_cons, ih]; rfl
  rw [hrep, ob_some, fc_n hn F, ob_some, fold_cong (v := fun (s_12 : List Nat) x => Option.bind (some (popN (cs.getD x 0 &&& p.1))) fun many_21 => (Option.bind (Option.bind (Option.bind (ixO s_12 many_21) fun z_23 => (some (z_23 + (1 : Nat)))) fun z_27 => (setO s_12 many_21 z_27)) fun found_26 => (some found_26))) _ (fun s v hv => by
      rw [ix_getD (d := 0) (by rw [A.len]; exact corn_lt F hv), ob_some, ob_some, bits_n (hlt v hv)])]
  rw [fold_map (fun v => popN (cs.getD v 0 &&& p.1)) (fun (s_12 : List Nat) x => Option.bind (some x) fun many_21 => (Option.bind (Option.bind (Option.bind (ixO s_12 many_21) fun z_23 => (some (z_23 + (1 : Nat)))) fun z_27 => (setO s_12 many_21 z_27)) fun found_26 => (some found_26)))]
  obtain ⟨r, h1, h2, h3⟩ := count_fold ((cornN p).map fun v => popN (cs.getD v 0 &&& p.1)) (popN p.1 + 1) (List.replicate (popN p.1 + 1) 0) (by simp) (fun x hx => by
    obtain ⟨v, hv, rfl⟩ := List.mem_map.mp hx
    have := pop_sub hf64 (hsub v hv)
    omega)
  rw [h1, ob_some]
  congr 1
  have hb := List.all_eq_true.mp bin_all p.1 (List.mem_range.mpr hf64)
  rw [← eq_of_beq hb]
  apply List.ext_getElem
  · rw [h2]; simp
  · intro j hj1 hj2
    have hjk : j < popN p.1 + 1 := by omega
    have := h3 j hjk
    rw [List.getD_eq_getElem?_getD, List.getElem?_eq_getElem hj1] at this
    rw [List.getElem_map, List.getElem_range]
    have e : r[j] = (List.replicate (popN p.1 + 1) 0).getD j 0 + ((cornN p).map fun v => popN (cs.getD v 0 &&& p.1)).count j := this
    rw [e]
    have e0 : (List.replicate (popN p.1 + 1) 0).getD j 0 = 0 := by
      rw [List.getD_eq_getElem?_getD, List.getElem?_replicate]
      split <;> rfl
    have e1 : ((cornN p).map fun v => popN (cs.getD v 0 &&& p.1)) = ((cornN p).map fun v => cs.getD v 0 &&& p.1).map popN := by rw [List.map_map]; rfl
    rw [e0, Nat.zero_add, e1, count_pop, hp.countP_eq]
theorem ro_l64 {l : List Nat} (h : ∀ x ∈ l, x < 2 ^ 64) (hl : l.length ≤ 64) : RO 1 3000 (eT nI l) := ro_T (n := 30) (c := 64) (fun x hx => ro_nat x (h x hx) (Nat.le_refl 30)) hl (by omega)
theorem bin_lt : (List.range 7).all (fun k => (binN k).all fun x => decide (x < 64)) = true := by decide +kernel
theorem same5 {x : Nat × Nat × List Nat × List Nat × List Nat} (h1 : x.1 < 64) (h2 : x.2.1 < 64) (h3 : RO 1 3000 (eT nI x.2.2.1)) (h4 : RO 1 3000 (eT nI x.2.2.2.1)) (h5 : RO 1 3000 (eT nI x.2.2.2.2)) : t__law_same x x = some true := by
  unfold t__law_same
  have hr : RO 2 20000 (eQ5 nI nI (eT nI) (eT nI) (eT nI) x) := ro_list (k := 1) (n := 3000) (fun d hd => by
    simp only [List.mem_cons, List.not_mem_nil, or_false] at hd
    rcases hd with rfl | rfl | rfl | rfl | rfl
    · exact ro_nat _ (by omega) (by omega)
    · exact ro_nat _ (by omega) (by omega)
    · exact h3
    · exact h4
    · exact h5) (by simp)
  rw [repr_ok hr (by decide) (by decide)]
  simp
theorem same2 {l : List Nat} (h : ∀ x ∈ l, x < 64) (hl : l.length ≤ 64) : t__law_same_i2 l l = some true := by
  unfold t__law_same_i2
  have hr : RO 1 3000 (eL nI l) := ro_L (n := 30) (c := 64) (fun x hx => ro_nat x (by have := h x hx; omega) (Nat.le_refl 30)) hl (by omega)
  rw [repr_ok hr (by decide) (by decide)]
  simp
theorem same3 {l : List (List Nat)} (h : ∀ x ∈ l, RO 1 3000 (eT nI x)) (hl : l.length ≤ 64) : t__law_same_i3 l l = some true := by
  unfold t__law_same_i3
  have hr : RO 2 300000 (eL (eT nI) l) := ro_L (n := 3000) (c := 64) h hl (by omega)
  rw [repr_ok hr (by decide) (by decide)]
  simp
theorem same4 {x : Nat} (h : x < 64) : t__law_same_i4 x x = some true := by
  unfold t__law_same_i4
  have hr : RO 1 3000 (nI x) := ro_nat x (by omega) (by omega)
  rw [repr_ok hr (by decide) (by decide)]
  simp
theorem same5t {l : List Nat} (h : RO 1 3000 (eT nI l)) : t__law_same_i5 l l = some true := by
  unfold t__law_same_i5
  rw [repr_ok h (by decide) (by decide)]
  simp
theorem zero_and' (f : Nat) : 0 &&& f = 0 := Nat.zero_and f
theorem face_right (A : Apart n cs) (hn : n ≤ 6) (F : Face n p) (t : Nat) : t__law_is_face_right cs p t = some true := by
  have h64 := p64 hn
  have hf := F.f
  have hf64 : p.1 < 64 := by omega
  have h6 := pop6 hf64
  obtain ⟨l, hl⟩ := named_one A hn F (zero_and' p.1)
  obtain ⟨h, hh⟩ := named_one A hn F (Nat.and_self p.1)
  have hl' : atN cs p 0 = [l] := hl
  have hh' : atN cs p p.1 = [h] := hh
  have ml : l ∈ cornN p := (at_mem (by rw [hl']; simp)).1
  have mh : h ∈ cornN p := (at_mem (by rw [hh']; simp)).1
  have ll := corn_lt F ml
  have lh := corn_lt F mh
  unfold t__law_is_face_right
  have lo : t_low_of cs p = some l := named_n hn A.len F (zero_and' p.1) hl'
  have hi : t_high_of cs p = some h := named_n hn A.len F (Nat.and_self p.1) hh'
  simp only [lows_n hn A.len F, highs_n hn A.len F, hl', hh', many_n hf64, ob_some, show ixO [l] 0 = some l from rfl, show ixO [h] 0 = some h from rfl, bin_n h6, lo, hi, counts_n A hn F, lowc_n hn A.len F, highc_n hn A.len F, ite_self]
  refine same5 (by show l < 64; omega) (by show h < 64; omega) (ro_l64 (fun x hx => ?_) ?_) (ro_l64 (fun x hx => ?_) (by simp)) (ro_l64 (fun x hx => ?_) (by simp))
  · have := List.all_eq_true.mp (List.all_eq_true.mp bin_lt (popN p.1) (List.mem_range.mpr (by omega))) x hx
    simp only [decide_eq_true_eq] at this
    omega
  · show (binN (popN p.1)).length ≤ 64
    unfold binN
    simp
    omega
  · have : x = l := by simpa using hx
    omega
  · have : x = h := by simpa using hx
    omega
theorem named_right (A : Apart n cs) (hn : n ≤ 6) (F : Face n p) (t : Nat) : t__law_is_named_right cs p t = some true := by
  have h64 := p64 hn
  obtain ⟨l, hl⟩ := named_one A hn F (zero_and' p.1)
  obtain ⟨h, hh⟩ := named_one A hn F (Nat.and_self p.1)
  have hl' : atN cs p 0 = [l] := hl
  have hh' : atN cs p p.1 = [h] := hh
  have ll := corn_lt F (at_mem (x := l) (by rw [hl']; simp)).1
  have lh := corn_lt F (at_mem (x := h) (by rw [hh']; simp)).1
  unfold t__law_is_named_right
  have lo : t_corner_named cs p 0 = some l := named_n hn A.len F (zero_and' p.1) hl'
  have hi : t_corner_named cs p p.1 = some h := named_n hn A.len F (Nat.and_self p.1) hh'
  simp only [lows_n hn A.len F, highs_n hn A.len F, hl', hh', show ixO [l] 0 = some l from rfl, show ixO [h] 0 = some h from rfl, lo, hi, ob_some, ite_self]
  exact same2 (fun x hx => by
    simp only [List.mem_cons, List.not_mem_nil, or_false] at hx
    rcases hx with rfl | rfl <;> omega) (by simp)
theorem three_t : (List.range 7).all (fun n => ((List.range (2 ^ n)).map fun s => 2 ^ (n - popN s)).sum == 3 ^ n && (List.range (2 ^ n)).all fun s => decide (popN s ≤ n)) = true := by decide +kernel
theorem full_perm (G : Good n cs) (hn : n ≤ 6) : cs.Perm (List.range (2 ^ n)) := by
  refine nodup_perm ?_ (fun x hx => ?_) (by rw [List.length_range, G.ap.len]; exact Nat.le_refl _)
  · refine List.pairwise_iff_getElem.mpr fun i j hi hj hij e => ?_
    have hi' : i < 2 ^ n := by rw [← G.ap.len]; exact hi
    have hj' : j < 2 ^ n := by rw [← G.ap.len]; exact hj
    refine G.ap.ap i hi' j hj' (by omega) ?_
    rw [List.getD_eq_getElem?_getD, List.getD_eq_getElem?_getD, List.getElem?_eq_getElem hi, List.getElem?_eq_getElem hj]
    show (i ^^^ j) &&& (cs[i] ^^^ cs[j]) = 0
    rw [e, Nat.xor_self, Nat.and_zero]
  · obtain ⟨i, hi, rfl⟩ := List.getElem_of_mem hx
    have := G.lt i (by rw [← G.ap.len]; exact hi)
    rw [List.getD_eq_getElem?_getD, List.getElem?_eq_getElem hi] at this
    exact List.mem_range.mpr this
theorem num_n (hl : cs.length = 2 ^ n) (hn : n ≤ 6) : t_ways_number cs = some n := by
  unfold t_ways_number
  rw [hl]
  have : ∀ n, n ≤ 6 → bitsN (2 ^ n) = n + 1 := fun n hn => by
    match n, hn with
    | 0, _ => kernel_rfl
    | 1, _ => kernel_rfl
    | 2, _ => kernel_rfl
    | 3, _ => kernel_rfl
    | 4, _ => kernel_rfl
    | 5, _ => kernel_rfl
    | 6, _ => kernel_rfl
    | n + 7, h => omega
  rw [this n hn, sub_ok (by omega)]
  rfl
theorem had_right (G : Good n cs) (hn : n ≤ 6) (t : Nat) : t__law_is_had_right cs n t = some true := by
  have h64 := p64 hn
  have hp := full_perm G hn
  have ht := List.all_eq_true.mp three_t n (List.mem_range.mpr (by omega))
  simp only [Bool.and_eq_true, beq_iff_eq, List.all_eq_true, decide_eq_true_eq, List.mem_range] at ht
  have hlt : ∀ x ∈ cs, x < 2 ^ n := fun x hx => List.mem_range.mp (hp.mem_iff.mp hx)
  have had : t_lows_had cs = some (cs.map fun s => 2 ^ (n - popN s)) := by
    unfold t_lows_had
    rw [num_n G.ap.len hn, ob_some, sz_ok (by rw [G.ap.len]; omega), ob_some, comp_m (fun s => 2 ^ (n - popN s)) (fun s hs => by
      have := hlt s hs
      rw [bits_n (by omega), ob_some, sub_ok (ht.2 s this), ob_some, pow2_ok (by omega)])]
    rfl
  unfold t__law_is_had_right
  rw [sz_ok (by rw [G.ap.len]; omega), ob_some, comp_m (fun s => 2 ^ (n - popN s)) (fun s hs => by
      have := hlt s hs
      rw [many_n (by omega), ob_some, sub_ok (ht.2 s this), ob_some, pow2_ok (by omega)]), ob_some, ob_some]
  simp only [had, ite_self, ob_some]
  have hthree : Op (foldT oM (fun (s_22 : Nat) x_23 => (Option.bind (some (s_22 * 3)) fun faces_26 => (some faces_26))) (List.range n) 1) (fun r => r = 3 ^ n) := op_rng (fun i r => r = 3 ^ i) (fun i r hi hr => op_bs (op_some (by rw [hr, Nat.pow_succ]))) rfl
  obtain ⟨r, hr, e⟩ := hthree
  have hsame : t__law_same_i5 (cs.map fun s => 2 ^ (n - popN s)) (cs.map fun s => 2 ^ (n - popN s)) = some true := same5t (ro_l64 (fun x hx => by
    obtain ⟨s, _, rfl⟩ := List.mem_map.mp hx
    exact Nat.pow_lt_pow_right (by decide) (by omega)) (by rw [List.length_map, G.ap.len]; exact h64))
  have hsum : (cs.map fun s => 2 ^ (n - popN s)).sum = 3 ^ n := by rw [(hp.map _).sum_nat, ht.1]
  rw [rg_ok (by omega), ob_some]
  refine (congrArg (fun o => Option.bind o _) hr).trans ?_
  rw [ob_some, hsame, ob_some, if_pos rfl, hsum, e, decide_eq_true rfl]
end
end Cw
namespace Cw
open PySem PySem.Spec PyProof.Rows L2 PL
theorem merged_n {m : Nat} {ms : List Nat} {ps : List (Nat × Nat)} (hm : m ≤ 4000) (q : Q m ms) (hp0 : ∀ p ∈ ps, p.1 < m ∧ p.2 < m) : Op (t__law_merged ms ps) (fun ls => Q m ls ∧ ∀ p ∈ ps, ls.getD p.1 0 = ls.getD p.2 0) := by
  unfold t__law_merged
  refine op_bs (op_bind (op_fold (fun rest ls => Q m ls ∧ (∀ p ∈ ps, p ∈ rest ∨ ls.getD p.1 0 = ls.getD p.2 0) ∧ ∀ p ∈ rest, p.1 < m ∧ p.2 < m) (fun x rest ls ⟨q1, d, b⟩ => ?a) ps ms ⟨q, fun p hp => .inl hp, hp0⟩) fun ls ⟨q1, d, b⟩ => op_some ⟨q1, fun p hp => (d p hp).elim (fun h => by cases h) id⟩)
  case a =>
    obtain ⟨hx1, hx2⟩ := b x (List.mem_cons_self ..)
    have b' : ∀ p ∈ rest, p.1 < m ∧ p.2 < m := fun p hp => b p (List.mem_cons_of_mem _ hp)
    refine op_be (ix_getD (d := 0) (by rw [q1.len]; exact hx1)) (op_be (ix_getD (d := 0) (by rw [q1.len]; exact hx2)) (op_ite (fun h => ?_) fun h => ?_))
    · rw [sz_ok (by rw [q1.len]; omega), ob_some, comp_m (fun y => if y = ls.getD x.2 0 then ls.getD x.1 0 else y) (fun y _ => by
        by_cases hy : y = ls.getD x.2 0
        · rw [if_pos (decide_eq_true hy), if_pos hy]
        · rw [if_neg (by rw [decide_eq_false hy]; exact Bool.false_ne_true), if_neg hy]), ob_some]
      refine op_some ⟨⟨by rw [List.length_map]; exact q1.len, fun v hv => ?_⟩, fun p hp => ?_, b'⟩
      · rw [getD_map (by rw [q1.len]; exact hv)]
        have h1 := q1.lt v hv
        have h2 := q1.lt x.1 hx1
        split <;> omega
      · rcases d p hp with h1 | h1
        · rcases List.mem_cons.mp h1 with rfl | h1
          · right
            rw [getD_map (by rw [q1.len]; exact hx1), getD_map (by rw [q1.len]; exact hx2)]
            split <;> split <;> omega
          · exact .inl h1
        · right
          by_cases hb : p.1 < m ∧ p.2 < m
          · rw [getD_map (by rw [q1.len]; exact hb.1), getD_map (by rw [q1.len]; exact hb.2), h1]
          · exact absurd (hp0 p hp) hb
    · have e : ls.getD x.1 0 = ls.getD x.2 0 := by simpa using h
      refine op_some ⟨q1, fun p hp => ?_, b'⟩
      rcases d p hp with h1 | h1
      · rcases List.mem_cons.mp h1 with rfl | h1
        · exact .inr e
        · exact .inl h1
      · exact .inr h1
theorem q_range {m : Nat} : Q m (List.range m) := ⟨List.length_range, fun v hv => by rw [List.getD_eq_getElem?_getD, List.getElem?_range hv]; exact hv⟩
structure Prs (m : Nat) (ps : List (Nat × Nat)) : Prop where
  lt : ∀ p ∈ ps, p.1 < m ∧ p.2 < m
theorem push_prs {m : Nat} {s : List (Nat × Nat)} {v w : Nat} (h : ∀ p ∈ s, p.1 < m ∧ p.2 < m) (hv : v < m) (hw : w < m) : ∀ p ∈ s ++ [(v, w)], p.1 < m ∧ p.2 < m := fun p hp => by
  rcases List.mem_append.mp hp with hp | hp
  · exact h p hp
  · have : p = (v, w) := by simpa using hp
    subst this
    exact ⟨hv, hw⟩
/-- what the inner loop over w keeps -/
def Inn (m v : Nat) (C : Nat → Nat → Prop) (s0 : List (Nat × Nat)) (rest : List Nat) (s : List (Nat × Nat)) : Prop :=
  s.length + rest.length ≤ s0.length + m ∧ (∀ p ∈ s, p.1 < m ∧ p.2 < m) ∧ (∀ p ∈ s0, p ∈ s) ∧ (∀ w, v < w → w < m → C v w → w ∈ rest ∨ (v, w) ∈ s) ∧ ∀ w ∈ rest, v < w ∧ w < m
theorem inn_start {m v : Nat} {C : Nat → Nat → Prop} {s0 : List (Nat × Nat)} (h : ∀ p ∈ s0, p.1 < m ∧ p.2 < m) (hv : v < m) : Inn m v C s0 ((List.range (m - (v + 1))).map (v + 1 + ·)) s0 := by
  refine ⟨by rw [List.length_map, List.length_range]; omega, h, fun p hp => hp, fun w h1 h2 _ => .inl (List.mem_map.mpr ⟨w - (v + 1), List.mem_range.mpr (by omega), by omega⟩), fun w hw => ?_⟩
  obtain ⟨i, hi, rfl⟩ := List.mem_map.mp hw
  have := List.mem_range.mp hi
  omega
theorem inn_add {m v w : Nat} {C : Nat → Nat → Prop} {s0 s : List (Nat × Nat)} {rest : List Nat} (h : Inn m v C s0 (w :: rest) s) (hv : v < m) : Inn m v C s0 rest (s ++ [(v, w)]) := by
  obtain ⟨h1, h2, h3, h4, h5⟩ := h
  obtain ⟨k1, k2⟩ := h5 w (List.mem_cons_self ..)
  refine ⟨by rw [List.length_append]; simp only [List.length_cons, List.length_nil] at h1 ⊢; omega, push_prs h2 hv k2, fun p hp => List.mem_append.mpr (.inl (h3 p hp)), fun x hx1 hx2 hc => ?_, fun x hx => h5 x (List.mem_cons_of_mem _ hx)⟩
  rcases h4 x hx1 hx2 hc with h | h
  · rcases List.mem_cons.mp h with rfl | h
    · exact .inr (by simp)
    · exact .inl h
  · exact .inr (List.mem_append.mpr (.inl h))
theorem inn_skip {m v w : Nat} {C : Nat → Nat → Prop} {s0 s : List (Nat × Nat)} {rest : List Nat} (h : Inn m v C s0 (w :: rest) s) (hc : ¬ C v w) : Inn m v C s0 rest s := by
  obtain ⟨h1, h2, h3, h4, h5⟩ := h
  refine ⟨by rw [List.length_cons] at h1; omega, h2, h3, fun x hx1 hx2 hcx => ?_, fun x hx => h5 x (List.mem_cons_of_mem _ hx)⟩
  rcases h4 x hx1 hx2 hcx with h | h
  · rcases List.mem_cons.mp h with rfl | h
    · exact absurd hcx hc
    · exact .inl h
  · exact .inr h
/-- what the outer loop over v keeps -/
def Outr (m : Nat) (C : Nat → Nat → Prop) (i : Nat) (s : List (Nat × Nat)) : Prop := s.length ≤ i * m ∧ (∀ p ∈ s, p.1 < m ∧ p.2 < m) ∧ ∀ v w, v < i → v < w → w < m → C v w → (v, w) ∈ s
theorem outr_step {m i : Nat} {C : Nat → Nat → Prop} {s0 s : List (Nat × Nat)} (o : Outr m C i s0) (h : Inn m i C s0 [] s) : Outr m C (i + 1) s := by
  obtain ⟨h1, h2, h3, h4, _⟩ := h
  obtain ⟨o1, _, o3⟩ := o
  refine ⟨by rw [Nat.succ_mul]; simp only [List.length_nil] at h1; omega, h2, fun v w hv h5 h6 hc => ?_⟩
  rcases Nat.lt_succ_iff_lt_or_eq.mp hv with hv | rfl
  · exact h3 _ (o3 v w hv h5 h6 hc)
  · exact (h4 w h5 h6 hc).elim (fun h => by cases h) id
theorem outr_zero {m : Nat} {C : Nat → Nat → Prop} : Outr m C 0 [] := ⟨by simp, (fun p h => by cases h), fun v w h => by omega⟩
theorem bnd {m i : Nat} (hi : i < m) (hm : m ≤ 64) : i * m + m ≤ 4200 := by
  have := Nat.mul_le_mul (show i + 1 ≤ 64 by omega) hm
  rw [Nat.succ_mul] at this
  omega
theorem tied_n {lo up : List Nat} {m : Nat} (hl : lo.length = m) (hu : up.length = m) (hm : m ≤ 64) : Op (t__law_tied lo up) (fun ps => (∀ p ∈ ps, p.1 < m ∧ p.2 < m) ∧ ∀ v w, v < w → w < m → (tied lo up v w ∨ tied lo up w v) → (v, w) ∈ ps) := by
  unfold t__law_tied
  rw [hl]
  refine op_bs (op_bb (op_be (rg_ok (by omega)) (op_bind (op_rng (n := m) (Outr m fun v w => tied lo up v w ∨ tied lo up w v) (fun v s hv o => ?a) outr_zero) fun s o => op_some ⟨o.2.1, fun v w h1 h2 hc => o.2.2 v w (by omega) h1 h2 hc⟩)))
  case a =>
    have hb := bnd hv hm
    refine op_bb (op_be (rg2_ok' (by omega)) (op_bind (op_fold (Inn m v (fun v w => tied lo up v w ∨ tied lo up w v) s) (fun w rest s' hi => ?b) _ _ (inn_start o.2.1 hv)) fun s' hi => op_some (outr_step o hi)))
    case b =>
      obtain ⟨h1, h2⟩ := hi.2.2.2.2 w (List.mem_cons_self ..)
      have hlen := hi.1
      have hs := o.1
      rw [List.length_cons] at hlen
      rw [ix_getD (l := lo) (d := 0) (show v < lo.length by omega), ix_getD (l := up) (d := 0) (show w < up.length by omega), ix_getD (l := lo) (d := 0) (show w < lo.length by omega), ix_getD (l := up) (d := 0) (show v < up.length by omega)]
      simp only [ob_some]
      by_cases c1 : tied lo up v w
      · have e1 : (v ^^^ w) &&& (lo.getD v 0 ^^^ up.getD w 0) = 0 := c1
        rw [decide_eq_true e1]
        simp only [if_true, ob_some]
        rw [push_ok' (by omega), ob_some]
        exact op_some (inn_add hi hv)
      · have e1 : ¬ (v ^^^ w) &&& (lo.getD v 0 ^^^ up.getD w 0) = 0 := c1
        rw [decide_eq_false e1]
        simp only [Bool.false_eq_true, if_false, ob_some]
        by_cases c2 : tied lo up w v
        · have e2 : (v ^^^ w) &&& (lo.getD w 0 ^^^ up.getD v 0) = 0 := by rw [Nat.xor_comm v w]; exact c2
          rw [decide_eq_true e2]
          simp only [if_true, ob_some]
          rw [push_ok' (by omega), ob_some]
          exact op_some (inn_add hi hv)
        · have e2 : ¬ (v ^^^ w) &&& (lo.getD w 0 ^^^ up.getD v 0) = 0 := by rw [Nat.xor_comm v w]; exact c2
          rw [decide_eq_false e2]
          simp only [Bool.false_eq_true, if_false]
          exact op_some (inn_skip hi (fun h => h.elim c1 c2))
theorem marks_n {lo up : List Nat} {m : Nat} (hl : lo.length = m) (hu : up.length = m) (hm : m ≤ 64) : ∃ ps ls, t__law_tied lo up = some ps ∧ t__law_merged (List.range m) ps = some ls ∧ Lab lo up ls := by
  obtain ⟨ps, h1, h2, h3⟩ := tied_n hl hu hm
  obtain ⟨ls, k1, q, k2⟩ := merged_n (by omega) (q_range (m := m)) h2
  refine ⟨ps, ls, h1, k1, ⟨by rw [q.len, hl], fun v hv => by rw [hl] at hv ⊢; exact q.lt v hv, fun v u hv hu' ht => ?_⟩⟩
  rw [hl] at hv hu'
  rcases Nat.lt_trichotomy v u with c | c | c
  · exact k2 _ (h3 v u c hu' (.inl ht))
  · rw [c]
  · exact (k2 _ (h3 u v c hv (.inr ht))).symm
/-! a class of edges, turned -/
theorem xor_xor (a k : Nat) : (a ^^^ k) ^^^ k = a := by rw [Nat.xor_assoc, Nat.xor_self, Nat.xor_zero]
theorem class_good {n b : Nat} {cs ls : List Nat} (G : Good n cs) (hb : b < n) (mk : Nat) (h1 : ∀ v w, v < w → w < 2 ^ n → (v ^^^ w) &&& (cs.getD v 0 ^^^ cs.getD w 0) = 2 ^ b → ls.getD v 0 = ls.getD w 0) :
    Good n ((List.range (2 ^ n)).map fun v => if ls.getD v 0 = mk then cs.getD v 0 ^^^ 2 ^ b else cs.getD v 0) := by
  have hbn : 2 ^ b < 2 ^ n := Nat.pow_lt_pow_right (by decide) hb
  have get : ∀ v, v < 2 ^ n → ((List.range (2 ^ n)).map fun v => if ls.getD v 0 = mk then cs.getD v 0 ^^^ 2 ^ b else cs.getD v 0).getD v 0 = if ls.getD v 0 = mk then cs.getD v 0 ^^^ 2 ^ b else cs.getD v 0 := fun v hv => by
    rw [List.getD_eq_getElem?_getD, List.getElem?_map, List.getElem?_range hv]
    rfl
  have key : ∀ v w, v < 2 ^ n → w < 2 ^ n → v ≠ w → ls.getD v 0 ≠ ls.getD w 0 → (v ^^^ w) &&& (cs.getD v 0 ^^^ 2 ^ b ^^^ cs.getD w 0) ≠ 0 := fun v w hv hw hne hl => by
    have hx := G.ap.ap v hv w hw hne
    have hnb : (v ^^^ w) &&& (cs.getD v 0 ^^^ cs.getD w 0) ≠ 2 ^ b := fun e => by
      rcases Nat.lt_or_gt_of_ne hne with c | c
      · exact hl (h1 v w c hw e)
      · rw [Nat.xor_comm v w, Nat.xor_comm (cs.getD v 0)] at e
        exact hl (h1 w v c hv e).symm
    obtain ⟨i, hi1, hi2⟩ : ∃ i, i ≠ b ∧ ((v ^^^ w) &&& (cs.getD v 0 ^^^ cs.getD w 0)).testBit i = true := by
      refine Classical.byContradiction fun hno => hnb (Nat.eq_of_testBit_eq fun i => ?_)
      obtain ⟨j, hj⟩ := Nat.exists_testBit_of_ne_zero hx
      have hjb : j = b := Classical.byContradiction fun e => hno ⟨j, e, hj⟩
      rw [Nat.testBit_two_pow]
      by_cases e : i = b
      · subst e
        rw [← hjb, hj]
        simp [hjb]
      · have : ((v ^^^ w) &&& (cs.getD v 0 ^^^ cs.getD w 0)).testBit i = false := by
          cases ht : ((v ^^^ w) &&& (cs.getD v 0 ^^^ cs.getD w 0)).testBit i with
          | true => exact absurd ⟨i, e, ht⟩ hno
          | false => rfl
        rw [this]
        simp [Ne.symm e]
    rw [Nat.testBit_and, Bool.and_eq_true] at hi2
    refine and_ne.mpr ⟨i, hi2.1, ?_⟩
    have e2 : (2 ^ b).testBit i = false := by rw [Nat.testBit_two_pow]; simp [Ne.symm hi1]
    have := hi2.2
    rw [Nat.testBit_xor] at this
    rw [Nat.testBit_xor, Nat.testBit_xor, e2, Bool.xor_false]
    exact this
  refine ⟨⟨by rw [List.length_map, List.length_range], fun v hv w hw hne => ?_⟩, fun v hv => ?_⟩
  · rw [get v hv, get w hw]
    by_cases cv : ls.getD v 0 = mk
    · by_cases cw : ls.getD w 0 = mk
      · rw [if_pos cv, if_pos cw]
        have e : cs.getD v 0 ^^^ 2 ^ b ^^^ (cs.getD w 0 ^^^ 2 ^ b) = cs.getD v 0 ^^^ cs.getD w 0 := by
          rw [Nat.xor_assoc, Nat.xor_comm (2 ^ b), Nat.xor_assoc, Nat.xor_self, Nat.xor_zero]
        rw [e]
        exact G.ap.ap v hv w hw hne
      · rw [if_pos cv, if_neg cw]
        exact key v w hv hw hne (by rw [cv]; exact fun e => cw e.symm)
    · by_cases cw : ls.getD w 0 = mk
      · rw [if_neg cv, if_pos cw, Nat.xor_comm v w, Nat.xor_comm (cs.getD v 0)]
        exact key w v hw hv (Ne.symm hne) (by rw [cw]; exact fun e => cv e.symm)
      · rw [if_neg cv, if_neg cw]
        exact G.ap.ap v hv w hw hne
  · rw [get v hv]
    have := G.lt v hv
    split
    · exact Nat.xor_lt_two_pow this hbn
    · exact this
theorem class_n {n : Nat} {cs : List Nat} (hn : n ≤ 6) (h0 : 0 < n) (G : Good n cs) : Sp (t__law_class_turned cs n) (Good n) := by
  unfold t__law_class_turned
  have h64 := p64 hn
  have pos : 0 < 2 ^ n := Nat.two_pow_pos n
  have hl := G.ap.len
  rw [hl]
  refine sp_bb (sp_bd h0 (by omega) fun b hb => sp_bl (pow2_ok (by omega)) (sp_br (sp_bb (sp_bl (rg_ok (by omega)) (sp_bind (sp_rng (n := 2 ^ n) (Outr (2 ^ n) fun v w => (v ^^^ w) &&& (cs.getD v 0 ^^^ cs.getD w 0) = 2 ^ b) (fun v s hv o => ?a) outr_zero) fun ps o => ?c)))))
  case a =>
    have hbn := bnd hv h64
    refine sp_bb (sp_bl (rg2_ok' (by omega)) (sp_bind (sp_fold (Inn (2 ^ n) v (fun v w => (v ^^^ w) &&& (cs.getD v 0 ^^^ cs.getD w 0) = 2 ^ b) s) (fun w rest s' hi => ?b) _ _ (inn_start o.2.1 hv)) fun s' hi => sp_ret (outr_step o hi)))
    case b =>
      obtain ⟨h1, h2⟩ := hi.2.2.2.2 w (List.mem_cons_self ..)
      have hlen := hi.1
      have hs := o.1
      rw [List.length_cons] at hlen
      refine sp_bb (sp_bb (sp_bb (sp_bl (ix_getD (d := 0) (by omega)) (sp_bb (sp_bl (ix_getD (d := 0) (by omega)) (sp_br (sp_br (sp_br ?_))))))))
      refine sp_ite (fun h => sp_bl (push_ok' (by omega)) (sp_ret (inn_add hi hv))) fun h => sp_ret (inn_skip hi (by simpa using h))
  case c =>
    have hps : ps.length ≤ 4200 := by
      have := o.1
      have := Nat.mul_le_mul h64 h64
      omega
    refine sp_bb (sp_bb (sp_bl (rg_ok (by omega)) (sp_bb (sp_bl (sz_ok (by rw [List.length_range]; omega)) (sp_cup (sp_bl (cat_ok (by rw [List.length_map, List.length_range]; omega)) ?_))))))
    have hbb : 2 ^ b < 2 ^ n := Nat.pow_lt_pow_right (by decide) hb
    obtain ⟨ls, k1, q, k2⟩ := merged_n (m := 2 ^ n) (ps := ps ++ (List.range (2 ^ n)).map fun v => (v, v ^^^ 2 ^ b)) (by omega) (q_range (m := 2 ^ n)) (fun p hp => by
      rcases List.mem_append.mp hp with hp | hp
      · exact o.2.1 p hp
      · obtain ⟨v, hv, rfl⟩ := List.mem_map.mp hp
        have hv := List.mem_range.mp hv
        exact ⟨hv, Nat.xor_lt_two_pow hv hbb⟩)
    refine sp_bb (sp_bl (rg_ok (by omega)) (sp_bl k1 (sp_bb (sp_bd pos (by omega) fun r hr => sp_bl (ix_getD (d := 0) (by rw [q.len]; exact hr)) ?_))))
    generalize ls.getD r 0 = mk
    refine sp_bb (sp_bl (rg_ok (by omega)) (sp_bb (sp_bl (sz_ok (by rw [List.length_range]; omega)) (sp_bind (P := fun ys => ys = (List.range (2 ^ n)).map fun v => if ls.getD v 0 = mk then cs.getD v 0 ^^^ 2 ^ b else cs.getD v 0) (sp_map _ (fun v hv => ?_) rfl) fun ys e => ?_))))
    · have hv := List.mem_range.mp hv
      refine sp_bb (sp_bl (ix_getD (d := 0) (by rw [q.len]; exact hv)) (sp_br (sp_ite (fun h => ?_) fun h => ?_)))
      · have h' : ls.getD v 0 = mk := by simpa using h
        exact sp_bl (ix_getD (d := 0) (by omega)) (sp_ret (by rw [if_pos h']))
      · have h' : ¬ ls.getD v 0 = mk := by simpa using h
        exact sp_lift (ix_getD (d := 0) (by omega)) (by rw [if_neg h'])
    · subst e
      exact sp_ret (class_good G hb mk fun v w hv hw he => k2 (v, w) (List.mem_append.mpr (.inl (o.2.2 v w (by omega) hv hw he))))
end Cw
namespace Cw
open PySem PySem.Spec PyProof.Rows L2 PL
/-! orders -/
theorem map_range_getD {f : Nat → Nat} {n i : Nat} (h : i < n) : ((List.range n).map f).getD i 0 = f i := by
  rw [List.getD_eq_getElem?_getD, List.getElem?_map, List.getElem?_range h]
  rfl
theorem step_ord {n s : Nat} (h0 : 0 < n) : Ord n ((List.range n).map fun i => (i + s) % n) := by
  refine ord_perm (nodup_perm (map_nodup List.nodup_range fun i hi j hj e => ?_) (fun x hx => ?_) (by simp))
  · have hi := List.mem_range.mp hi
    have hj := List.mem_range.mp hj
    have e1 := Nat.div_add_mod (i + s) n
    have e2 := Nat.div_add_mod (j + s) n
    rw [e] at e1
    rcases Nat.lt_trichotomy ((i + s) / n) ((j + s) / n) with c | c | c
    · have := Nat.mul_le_mul_left n (show (i + s) / n + 1 ≤ (j + s) / n by omega)
      rw [Nat.mul_add] at this
      omega
    · rw [c] at e1
      omega
    · have := Nat.mul_le_mul_left n (show (j + s) / n + 1 ≤ (i + s) / n by omega)
      rw [Nat.mul_add] at this
      omega
  · obtain ⟨i, hi, rfl⟩ := List.mem_map.mp hx
    exact List.mem_range.mpr (Nat.mod_lt _ h0)
theorem mod_ok {x y : Nat} (h : 0 < y) : modO x y = some (x % y) := if_pos h
theorem order_n {n : Nat} (hn : n ≤ 6) : Sp (t__law_order n) (Ord n) := by
  unfold t__law_order
  have fin : Sp (wM.bind (wM.lift (rgO n)) fun rest_29 => (wM.bind (wM.ret ([] : (List Nat))) fun found_30 => (wM.bind (wM.bind (wM.lift (rgO n)) fun z_43 => (foldT wM (fun (s_32 : ((List Nat) × (List Nat))) x_33 => (wM.bind (wM.bind (wM.bind (drawW (s_32.2).length) fun z_38 => (wM.lift (popAtO s_32.2 z_38))) fun q_40 => (wM.bind (wM.lift (pushO s_32.1 q_40.1)) fun z_41 => (wM.ret (q_40, z_41)))) fun found_39 => (wM.ret (found_39.2, found_39.1.2)))) z_43 (found_30, rest_29))) fun s_32 => (wM.ret s_32.1)))) (Ord n) := by
    refine sp_bl (rg_ok (by omega)) (sp_br (sp_bb (sp_bl (rg_ok (by omega)) (sp_bind (sp_rng (n := n) (fun i s => s.1.length = i ∧ s.2.length = n - i ∧ (s.1 ++ s.2).Perm (List.range n)) (fun i s hi ⟨l1, l2, pm⟩ => ?a) ⟨rfl, List.length_range, List.Perm.refl _⟩) fun s ⟨l1, l2, pm⟩ => ?b))))
    case a =>
      refine sp_bb (sp_bb (sp_bd (by omega) (by omega) fun r hr => sp_bl (x := (s.2[r], s.2.eraseIdx r)) ?_ (sp_bb (sp_bl (push_ok' (by omega)) (sp_br (sp_ret ⟨by rw [List.length_append, l1]; rfl, ?_, ?_⟩))))))
      · unfold popAtO
        rw [List.getElem?_eq_getElem hr, ob_some, if_pos (by omega)]
      · show (s.2.eraseIdx r).length = _
        rw [List.length_eraseIdx_of_lt hr]
        omega
      · show (s.1 ++ [s.2[r]] ++ s.2.eraseIdx r).Perm _
        rw [List.append_assoc]
        exact (List.Perm.append_left s.1 (erase_perm hr)).trans pm
    case b =>
      have hs2 : s.2 = [] := List.eq_nil_of_length_eq_zero (by omega)
      rw [hs2, List.append_nil] at pm
      exact sp_ret (ord_perm pm)
  have yes : 0 < n → Sp (wM.bind (wM.bind (drawW n) fun z_12 => (wM.ret ((1 : Nat) + z_12))) fun step_15 => (wM.bind (wM.bind (wM.lift (rgO n)) fun z_25 => (wM.bind (wM.lift (szO z_25)) fun l_24 => (compT wM (fun x_17 => (wM.ret true)) (fun x_17 => (wM.lift (modO (x_17 + step_15) n))) l_24))) fun z_26 => (wM.ret z_26))) (Ord n) := fun h0 => by
    refine sp_bb (sp_bd h0 (by omega) fun r hr => sp_br (sp_bb (sp_bl (rg_ok (by omega)) (sp_bb (sp_bl (sz_ok (by rw [List.length_range]; omega)) (sp_bind (P := fun ys => ys = (List.range n).map fun i => (i + (1 + r)) % n) (sp_map _ (fun x hx => sp_lift (mod_ok h0) rfl) rfl) fun ys e => ?_))))))
    subst e
    exact sp_ret (step_ord h0)
  by_cases h0 : 0 < n
  · rw [if_pos (decide_eq_true h0)]
    exact sp_bb (sp_bd (by decide) (by decide) fun r hr => sp_br (sp_ite (fun _ => yes h0) fun _ => fin))
  · rw [if_neg (by rw [decide_eq_false h0]; exact Bool.false_ne_true)]
    exact sp_br (sp_ite (fun h => by cases h) fun _ => fin)
/-- the table of an order -/
def tabN : List Nat → List Nat → List Nat
  | t, [] => t
  | t, o :: os => tabN (t ++ t.map fun x => x ||| 2 ^ o) os
theorem rep0 (k : Nat) (h : k < 2 ^ 19) : repO [(0 : Nat)] k = some (List.replicate k 0) := by
  unfold repO
  rw [if_pos (by simp; omega)]
  congr 1
  clear h
  induction k with
  | zero => rfl
  | succ k ih => rw [List.replicate_succ, List.flatten_cons, ih]; rfl
theorem led_low {n : Nat} {o : List Nat} (h : Ord n o) {v k : Nat} (hk : k ≤ n) (hv : v < 2 ^ k) : ledN o v = (((List.range k).filter fun i => v.testBit i).map fun i => 2 ^ o.getD i 0).sum := by
  unfold ledN
  rw [h.len]
  have e : (List.range n).filter (fun i => v.testBit i) = (List.range k).filter fun i => v.testBit i := by
    obtain ⟨d, rfl⟩ : ∃ d, n = k + d := ⟨n - k, by omega⟩
    clear h hk
    induction d with
    | zero => rfl
    | succ d ih =>
      rw [show k + (d + 1) = k + d + 1 by omega, List.range_succ, List.filter_append, ih]
      have : v.testBit (k + d) = false := Nat.testBit_lt_two_pow (Nat.lt_of_lt_of_le hv (Nat.pow_le_pow_right (by decide) (by omega)))
      simp [this]
  rw [e]
theorem ordered_n {n : Nat} {cs o : List Nat} (hn : n ≤ 6) (h : Ord n o) (hl : cs.length = 2 ^ n) (hlt : ∀ v, v < 2 ^ n → cs.getD v 0 < 2 ^ n) : Op (t__law_ordered cs o) (fun fs => fs.length = 2 ^ n ∧ ∀ v, v < 2 ^ n → fs.getD (ledN o v) 0 = ledN o (cs.getD v 0)) := by
  unfold t__law_ordered
  have h64 := p64 hn
  have pos : 0 < 2 ^ n := Nat.two_pow_pos n
  refine op_bs (op_be (rep0 _ (by omega)) (op_bind (P := fun t => t.length = 2 ^ n ∧ ∀ v, v < 2 ^ n → t.getD v 0 = ledN o v) ?_ fun t ⟨tl, ta⟩ => ?_))
  · have key := op_fold (u := fun (s_8 : (List Nat)) x_9 => (Option.bind (Option.bind (Option.bind (szO s_8) fun l_17 => (compT oM (fun x_10 => (some true)) (fun x_10 => (Option.bind (pow2O x_9) fun z_13 => (some (x_10 ||| z_13)))) l_17)) fun z_18 => (catO s_8 z_18)) fun table_21 => (some table_21))) (fun rest t => ∃ k, k ≤ n ∧ rest = o.drop k ∧ t.length = 2 ^ k ∧ ∀ v, v < 2 ^ k → t.getD v 0 = (((List.range k).filter fun i => v.testBit i).map fun i => 2 ^ o.getD i 0).sum) (fun x rest t ⟨k, hk, hr, tl, ta⟩ => by
      have hk1 : k < n := by
        rcases Nat.lt_or_ge k n with c | c
        · exact c
        · rw [List.drop_eq_nil_of_le (by rw [h.len]; exact c)] at hr
          cases hr
      have hko : k < o.length := by rw [h.len]; exact hk1
      rw [List.drop_eq_getElem_cons hko] at hr
      injection hr with e1 e2
      have hx : x = o.getD k 0 := by rw [e1, List.getD_eq_getElem?_getD, List.getElem?_eq_getElem hko]; rfl
      have hxn : x < n := by rw [hx]; exact h.lt k hk1
      have hk6 := p64 (n := k) (by omega)
      refine op_bb (op_bb (op_be (sz_ok (by omega)) (op_be (comp_m (fun y => y ||| 2 ^ x) (fun y _ => by rw [pow2_ok (by omega)]; rfl)) (op_be (cat_ok (by rw [List.length_map]; omega)) (op_some ⟨k + 1, hk1, e2, by rw [List.length_append, List.length_map, Nat.pow_succ]; omega, fun v hv => ?_⟩)))))
      rw [List.range_succ, List.filter_append, List.map_append, List.sum_append]
      rw [Nat.pow_succ] at hv
      by_cases hvk : v < 2 ^ k
      · have : v.testBit k = false := Nat.testBit_lt_two_pow hvk
        rw [List.getD_eq_getElem?_getD, List.getElem?_append_left (by omega), ← List.getD_eq_getElem?_getD, ta v hvk]
        simp [this]
      · obtain ⟨u, rfl⟩ : ∃ u, v = 2 ^ k + u := ⟨v - 2 ^ k, by omega⟩
        have hu : u < 2 ^ k := by omega
        have hb : (2 ^ k + u).testBit k = true := by rw [Nat.testBit_two_pow_add_eq, Nat.testBit_lt_two_pow hu]; rfl
        have hf : ((List.range k).filter fun i => (2 ^ k + u).testBit i) = (List.range k).filter fun i => u.testBit i := List.filter_congr fun i hi => by
          rw [Nat.testBit_two_pow_add_gt (List.mem_range.mp hi)]
        rw [List.getD_eq_getElem?_getD, List.getElem?_append_right (by omega), tl, Nat.add_sub_cancel_left, List.getElem?_map, hf]
        have hg : t[u]? = some (t.getD u 0) := by rw [List.getD_eq_getElem?_getD, List.getElem?_eq_getElem (by omega)]; rfl
        rw [hg, ta u hu]
        show (((List.range k).filter fun i => u.testBit i).map fun i => 2 ^ o.getD i 0).sum ||| 2 ^ x = _
        have hd : (((List.range k).filter fun i => u.testBit i).map fun i => 2 ^ o.getD i 0).sum &&& 2 ^ x = 0 := by
          rw [← led_low h (by omega) hu]
          apply Nat.eq_of_testBit_eq
          intro j
          rw [Nat.testBit_and, Nat.testBit_two_pow, Nat.zero_testBit]
          by_cases e : x = j
          · subst e
            rw [hx, led_bit h u hk1, Nat.testBit_lt_two_pow hu]
            rfl
          · simp [e]
        have ho := nat_or_add_and (((List.range k).filter fun i => u.testBit i).map fun i => 2 ^ o.getD i 0).sum (2 ^ x)
        rw [hd, Nat.add_zero] at ho
        rw [ho]
        simp only [List.filter_cons, hb, if_true, List.filter_nil, List.map_cons, List.map_nil, List.sum_cons, List.sum_nil, Nat.add_zero]
        rw [hx]) o [0] ⟨0, by omega, rfl, rfl, fun v hv => by
        have : v = 0 := by simpa using hv
        subst this
        rfl⟩
    refine op_mono key fun t ⟨k, hk, hr, tl, ta⟩ => ?_
    have hkn : k = n := by
      rcases Nat.lt_or_ge k n with c | c
      · have := congrArg List.length hr
        rw [List.length_drop, h.len] at this
        simp at this
        omega
      · omega
    subst hkn
    exact ⟨tl, fun v hv => by rw [ta v hv, led_low h (Nat.le_refl _) hv]⟩
  · refine op_bind (op_mono (op_fold (fun rest fs => ∃ k, rest = (enumN cs).drop k ∧ fs.length = 2 ^ n ∧ ∀ v, v < k → v < 2 ^ n → fs.getD (ledN o v) 0 = ledN o (cs.getD v 0)) (fun x rest fs ⟨k, hr, fl, fa⟩ => ?a) (enumN cs) _ ⟨0, rfl, by rw [List.length_replicate, hl], fun v hv => by omega⟩) fun fs hfs => hfs) fun fs ⟨k, hr, fl, fa⟩ => op_some ⟨fl, fun v hv => ?b⟩
    case a =>
      have el : (enumN cs).length = 2 ^ n := by unfold enumN; rw [List.length_map, List.length_zipIdx, hl]
      have hk : k < (enumN cs).length := by
        rcases Nat.lt_or_ge k (enumN cs).length with c | c
        · exact c
        · rw [List.drop_eq_nil_of_le c] at hr
          cases hr
      rw [List.drop_eq_getElem_cons hk] at hr
      injection hr with e1 e2
      have hkn : k < 2 ^ n := by omega
      have hx : x = (k, cs.getD k 0) := by
        have h3 : (enumN cs)[k]? = some x := by rw [List.getElem?_eq_getElem hk, e1]
        rw [enumN_get, List.getElem?_eq_getElem (show k < cs.length by omega)] at h3
        rw [List.getD_eq_getElem?_getD, List.getElem?_eq_getElem (show k < cs.length by omega)]
        exact (Option.some.inj h3).symm
      subst hx
      have h1 := led_lt h k
      have h2 := hlt k hkn
      refine op_bb (op_be (ix_getD (d := 0) (by show cs.getD k 0 < t.length; omega)) (op_bb (op_be (ix_getD (d := 0) (by show k < t.length; omega)) ?_)))
      rw [ta k hkn, ta _ h2]
      refine op_be (set_ok (by omega)) (op_some ⟨k + 1, e2, by rw [List.length_set]; exact fl, fun v hv hvn => ?_⟩)
      rw [List.getD_eq_getElem?_getD]
      rcases Nat.lt_succ_iff_lt_or_eq.mp hv with hv | rfl
      · rw [List.getElem?_set_ne (fun e => by have := led_inj h hkn hvn e; omega), ← List.getD_eq_getElem?_getD]
        exact fa v hv hvn
      · rw [List.getElem?_set_self (by omega)]
        rfl
    case b =>
      have el : (enumN cs).length = 2 ^ n := by unfold enumN; rw [List.length_map, List.length_zipIdx, hl]
      have hk : 2 ^ n ≤ k := by
        have := congrArg List.length hr
        rw [List.length_drop] at this
        simp at this
        omega
      exact fa v (by omega) hv
theorem moved_n {n c : Nat} {cs o : List Nat} (hn : n ≤ 6) (h : Ord n o) (G : Good n cs) (hc : c < 2 ^ n) : Op (t__law_moved cs o c) (Good n) := by
  unfold t__law_moved
  have h64 := p64 hn
  refine op_bind (ordered_n hn h G.ap.len G.lt) fun fs ⟨fl, fa⟩ => ?_
  rw [fl]
  refine op_bb (op_be (rg_ok (by omega)) (op_bb (op_be (sz_ok (by rw [List.length_range]; omega)) (op_be (comp_m (fun v => fs.getD (v ^^^ c) 0) (fun v hv => ix_getD (by rw [fl]; exact Nat.xor_lt_two_pow (List.mem_range.mp hv) hc))) (op_some ?_)))))
  refine moved_good (flip := c) (ways := 0) h G hc (Nat.two_pow_pos n) (by rw [List.length_map, List.length_range]) fun v hv => ?_
  rw [map_range_getD (Nat.xor_lt_two_pow (led_lt h v) hc), xor_xor, fa v hv, Nat.xor_zero]
/-! joins -/
theorem known_good : ([[(1 : Nat), 6, 3, 0, 7, 2, 4, 5], [7, 0, 1, 2, 3, 6, 4, 5], [0, 1, 3, 2, 7, 6, 4, 5]] : List (List Nat)).all (fun cs => cs.length == 8 && (List.range 8).all fun v => decide (cs.getD v 0 < 8) && (List.range 8).all fun w => v == w || (v ^^^ w) &&& (cs.getD v 0 ^^^ cs.getD w 0) != 0) = true := by decide +kernel
theorem known_n {cs : List Nat} (h : cs ∈ ([[(1 : Nat), 6, 3, 0, 7, 2, 4, 5], [7, 0, 1, 2, 3, 6, 4, 5], [0, 1, 3, 2, 7, 6, 4, 5]] : List (List Nat))) : Good 3 cs := by
  have := List.all_eq_true.mp known_good cs h
  simp only [Bool.and_eq_true, beq_iff_eq, List.all_eq_true, List.mem_range, decide_eq_true_eq, Bool.or_eq_true, bne_iff_ne] at this
  obtain ⟨h1, h2⟩ := this
  exact ⟨⟨h1, fun v hv w hw hne => ((h2 v hv).2 w hw).resolve_left hne⟩, fun v hv => (h2 v hv).1⟩
theorem shl_ok {x y : Nat} (h : x < 2 ^ 64 ∧ y ≤ 1000000) : shlO x y = some (x * 2 ^ y) := if_pos h
theorem or_top {n x : Nat} (hx : x < 2 ^ n) (k : Bool) : (x ||| if k then 2 ^ n else 0) = x + if k then 2 ^ n else 0 := by
  cases k with
  | true =>
    simp only [if_true]
    have h1 := nat_or_add_and x (2 ^ n)
    have h2 : x &&& 2 ^ n = 0 := by
      apply Nat.eq_of_testBit_eq
      intro i
      rw [Nat.testBit_and, Nat.testBit_two_pow, Nat.zero_testBit]
      by_cases e : n = i
      · subst e; simp [Nat.testBit_lt_two_pow hx]
      · simp [e]
    omega
  | false => simp
theorem joined_n : ∀ (k n : Nat), n < k → n ≤ 6 → Sp (t__law_joined_k k n) (Good n)
  | 0, n, h, _ => by omega
  | k + 1, n, hk, hn => by
    show Sp (t__law_joined (t__law_joined_k k) n) (Good n)
    unfold t__law_joined
    refine sp_ite (fun h => ?_) fun h => ?_
    · have h0 : n = 0 := by simpa using h
      subst h0
      refine sp_ret ⟨⟨rfl, fun v hv w hw hne => ?_⟩, fun v hv => ?_⟩
      · have : v = 0 := by simpa using hv
        have : w = 0 := by simpa using hw
        omega
      · have : v = 0 := by simpa using hv
        subst this
        decide
    · have h0 : n ≠ 0 := by simpa using h
      obtain ⟨m, rfl⟩ : ∃ m, n = m + 1 := ⟨n - 1, by omega⟩
      have h64 := p64 hn
      have hm64 := p64 (n := m) (by omega)
      have pos : 0 < 2 ^ m := Nat.two_pow_pos m
      have rec1 : Sp (t__law_joined_k k m) (Good m) := joined_n k m (by omega) (by omega)
      have s1 : subO (m + 1) 1 = some m := sub_ok (by omega)
      have main : Sp (wM.bind (wM.bind (wM.lift (subO (m + 1) (1 : Nat))) fun z_57 => (t__law_joined_k k z_57)) fun below_60 => (wM.bind (drawW (4 : Nat)) fun way_61 => (wM.bind (wM.ret below_60) fun above_62 => (wM.bind (wM.bind (if (decide (way_61 = (1 : Nat))) then (wM.ret (decide ((1 : Nat) < m + 1))) else (wM.ret false)) fun z_86 => (if z_86 then (wM.bind (wM.bind (wM.lift (subO (m + 1) (1 : Nat))) fun z_75 => (t__law_class_turned below_60 z_75)) fun above_76 => (wM.ret above_76)) else (if (decide ((1 : Nat) < way_61)) then (wM.bind (wM.bind (wM.lift (subO (m + 1) (1 : Nat))) fun z_84 => (t__law_joined_k k z_84)) fun above_85 => (wM.ret above_85)) else (wM.ret above_62)))) fun s_69 => (wM.bind (wM.bind (wM.lift (rgO (below_60).length)) fun z_93 => (wM.bind (wM.lift (t__law_tied below_60 s_69)) fun z_94 => (wM.lift (t__law_merged z_93 z_94)))) fun marks_95 => (wM.bind (wM.bind (wM.lift (szO marks_95)) fun l_106 => (compT wM (fun x_96 => (wM.ret true)) (fun x_96 => (wM.bind (drawW (2 : Nat)) fun z_101 => (wM.bind (wM.lift (subO (m + 1) (1 : Nat))) fun z_102 => (wM.lift (shlO z_101 z_102))))) l_106)) fun ups_107 => (wM.bind (wM.bind (wM.lift (subO (m + 1) (1 : Nat))) fun z_110 => (wM.lift (pow2O z_110))) fun top_113 => (wM.bind (wM.bind (wM.lift (rgO (below_60).length)) fun z_127 => (wM.bind (wM.lift (szO z_127)) fun l_126 => (compT wM (fun x_116 => (wM.ret true)) (fun x_116 => (wM.bind (wM.lift (ixO below_60 x_116)) fun z_121 => (wM.bind (wM.bind (wM.lift (ixO marks_95 x_116)) fun z_119 => (wM.lift (ixO ups_107 z_119))) fun z_122 => (wM.ret (z_121 ||| z_122))))) l_126))) fun low_128 => (wM.bind (wM.bind (wM.bind (wM.lift (rgO (s_69).length)) fun z_145 => (wM.bind (wM.lift (szO z_145)) fun l_144 => (compT wM (fun x_131 => (wM.ret true)) (fun x_131 => (wM.bind (wM.lift (ixO s_69 x_131)) fun z_139 => (wM.bind (wM.bind (wM.bind (wM.lift (ixO marks_95 x_131)) fun z_134 => (wM.lift (ixO ups_107 z_134))) fun z_136 => (wM.lift (subO top_113 z_136))) fun z_140 => (wM.ret (z_139 ||| z_140))))) l_144))) fun z_146 => (wM.lift (catO low_128 z_146))) fun z_149 => (wM.ret z_149)))))))))) (Good (m + 1)) := by
        refine sp_bb (sp_bl s1 (sp_bind rec1 fun lo G1 => sp_bd (by decide) (by decide) fun way _ => sp_br (sp_bind (P := Good m) ?_ fun up G2 => ?_)))
        · refine sp_bind (P := fun z => z = true → 1 < m + 1) (sp_ite (fun h => sp_ret fun e => by simpa using e) fun _ => sp_ret fun e => by cases e) fun z hz => ?_
          refine sp_ite (fun h => sp_bb (sp_bl s1 (sp_bind (class_n (by omega) (by have := hz h; omega) G1) fun a ha => sp_ret ha))) fun h => sp_ite (fun _ => sp_bb (sp_bl s1 (sp_bind rec1 fun a ha => sp_ret ha))) fun _ => sp_ret G1
        · have l1 := G1.ap.len
          have l2 := G2.ap.len
          obtain ⟨ps, ls, k1, k2, L⟩ := marks_n l1 l2 hm64
          rw [l1]
          refine sp_bb (sp_bl (rg_ok (by omega)) (sp_bb (sp_bl k1 (sp_bl k2 (sp_bb (sp_bl (sz_ok (by rw [L.len, l1]; omega)) (sp_bind (sp_all (P := fun y => ∃ b : Bool, y = if b then 2 ^ m else 0) (R := fun us => us.length = 2 ^ m ∧ ∀ y ∈ us, ∃ b : Bool, y = if b then 2 ^ m else 0) (fun x _ => sp_bd (by decide) (by decide) fun r hr => sp_bl s1 (sp_lift (shl_ok (by omega)) ?_)) fun ys a b => ⟨by rw [a, L.len, l1], b⟩) fun us ⟨ul, ub⟩ => ?_)))))))
          · rcases (show r = 0 ∨ r = 1 by omega) with rfl | rfl
            · exact ⟨false, by simp⟩
            · exact ⟨true, by simp⟩
          have hbs := bools_of (2 ^ m) us ub
          rw [ul] at hbs
          obtain ⟨bs, hbl, rfl⟩ := hbs
          have hu : ∀ i, i < 2 ^ m → ixO (bs.map fun b => if b then 2 ^ m else 0) i = some (if bs.getD i false then 2 ^ m else 0) := fun i hi => by
            unfold ixO
            rw [List.getElem?_map, List.getD_eq_getElem?_getD, List.getElem?_eq_getElem (by omega)]
            rfl
          have hlab : ∀ v, v < 2 ^ m → ls.getD v 0 < 2 ^ m := fun v hv => by
            have := L.lt v (by omega)
            omega
          refine sp_bb (sp_bl s1 (sp_bl (pow2_ok (by omega)) (sp_bb (sp_bl (rg_ok (by omega)) (sp_bb (sp_bl (sz_ok (by rw [List.length_range]; omega)) (sp_bind (P := fun ys => ys = (List.range (2 ^ m)).map fun v => lo.getD v 0 + if bs.getD (ls.getD v 0) false then 2 ^ m else 0) (sp_map _ (fun v hv => ?_) rfl) fun low e => ?_)))))))
          · have hv := List.mem_range.mp hv
            exact sp_bl (ix_getD (d := 0) (by omega)) (sp_bb (sp_bl (ix_getD (d := 0) (by rw [L.len]; omega)) (sp_bl (hu _ (hlab v hv)) (sp_ret (or_top (G1.lt v hv) _)))))
          subst e
          rw [l2]
          refine sp_bb (sp_bb (sp_bl (rg_ok (by omega)) (sp_bb (sp_bl (sz_ok (by rw [List.length_range]; omega)) (sp_bind (P := fun ys => ys = (List.range (2 ^ m)).map fun v => up.getD v 0 + if bs.getD (ls.getD v 0) false then 0 else 2 ^ m) (sp_map _ (fun v hv => ?_) rfl) fun high e => ?_)))))
          · have hv := List.mem_range.mp hv
            refine sp_bl (ix_getD (d := 0) (by omega)) (sp_bb (sp_bb (sp_bl (ix_getD (d := 0) (by rw [L.len]; omega)) (sp_bl (hu _ (hlab v hv)) (sp_bl (sub_ok (by split <;> omega)) (sp_ret ?_))))))
            have := or_top (G2.lt v hv) (!bs.getD (ls.getD v 0) false)
            revert this
            cases bs.getD (ls.getD v 0) false <;> simp
          subst e
          refine sp_bl (cat_ok (by simp only [List.length_map, List.length_range]; omega)) (sp_ret ?_)
          have := join_apart (us := bs) G1.ap G2.ap L G1.lt G2.lt
          unfold joinN at this
          rw [l1] at this
          exact ⟨this.1, this.2⟩
      refine sp_bind (P := fun z => z = true → m + 1 = 3) (sp_ite (fun h => sp_bd (by decide) (by decide) fun r _ => sp_ret fun _ => by simpa using h) fun _ => sp_ret fun e => by cases e) fun z hz => ?_
      refine sp_ite (fun h => ?_) fun h => main
      have h3 := hz h
      rw [h3]
      refine sp_bind (P := fun cs => Good 3 cs) ?_ fun cs G => sp_bind (order_n (by decide)) fun o ho => sp_bd (by decide) (by decide) fun c hc => ?_
      · unfold t__law_pick
        exact sp_bd (by decide) (by decide) fun r hr => sp_lift (ix_ok hr) (known_n (List.getElem_mem _))
      · obtain ⟨fs, e, hf⟩ := moved_n (by decide) ho G hc
        exact sp_lift e hf
theorem good_n {n : Nat} (hn : n ≤ 6) : Sp (t__law_good n) (Good n) := by
  unfold t__law_good
  have h64 := p64 hn
  refine sp_bind (joined_n 8 n (by omega) hn) fun cs G => sp_bb (sp_bb (sp_bb (sp_bind (P := fun k => 0 < k ∧ k ≤ 3) (sp_ite (fun _ => sp_ret (by decide)) fun _ => sp_ret (by decide)) fun k hk => ?_)))
  refine sp_bd hk.1 (by omega) fun r hr => sp_bl (rg_ok (by omega)) (sp_bind (sp_rng (n := r) (fun _ cs => Good n cs) (fun i cs _ G => sp_ite (fun h => sp_bind (class_n hn (by simpa using h) G) fun a ha => sp_ret ha) fun _ => sp_ret G) G) fun cs G => ?_)
  refine sp_bb (sp_bb (sp_bd (by decide) (by decide) fun r _ => sp_br (sp_bind (P := Good n) (sp_ite (fun _ => ?_) fun _ => sp_ret G) fun cs G => sp_ret G)))
  refine sp_bb (sp_bind (order_n hn) fun o ho => sp_bb (sp_bd (by rw [G.ap.len]; exact Nat.two_pow_pos n) (by rw [G.ap.len]; omega) fun c hc => ?_))
  rw [G.ap.len] at hc
  obtain ⟨fs, e, hf⟩ := moved_n hn ho G hc
  exact sp_bl e (sp_ret hf)
end Cw
namespace Cw
open PySem PySem.Spec PyProof.Rows L2 PL
theorem arrows_n {n : Nat} (hn : n ≤ 6) : Sp (t__law_arrows n) (fun cs => cs.length = 2 ^ n) := by
  unfold t__law_arrows
  have h64 := p64 hn
  refine sp_bb (sp_bl (pow2_ok (by omega)) (sp_bl (rep0 _ (by omega)) (sp_bb (sp_bl (rg_ok (by omega)) (sp_bind (sp_rng (n := n) (fun _ cs => cs.length = 2 ^ n) (fun i cs hi hl => ?a) (by rw [List.length_replicate])) fun cs hl => sp_ret hl)))))
  case a =>
    refine sp_bb (sp_bb (sp_bl (pow2_ok (by omega)) (sp_bl (rg_ok (by omega)) (sp_bind (sp_rng (n := 2 ^ n) (fun _ cs => cs.length = 2 ^ n) (fun v cs hv hl => ?b) hl) fun cs hl => sp_ret hl))))
    case b =>
      refine sp_ite (fun _ => ?_) fun _ => sp_ret hl
      refine sp_bb (sp_bb (sp_bd (by decide) (by decide) fun r hr => sp_bl (shl_ok (by omega)) (sp_br ?_)))
      have hi2 : 2 ^ i < 2 ^ n := Nat.pow_lt_pow_right (by decide) hi
      have he : v ||| r * 2 ^ i < 2 ^ n := Nat.or_lt_two_pow hv (by
        rcases (show r = 0 ∨ r = 1 by omega) with rfl | rfl <;> omega)
      refine sp_bb (sp_bb (sp_bl (ix_getD (d := 0) (by omega)) (sp_bb (sp_bl (pow2_ok (by omega)) (sp_br (sp_bl (set_ok (by omega)) (sp_ret (by rw [List.length_set]; exact hl))))))))
theorem full_tab : (List.range 7).all (fun n => (List.range (2 ^ n)).all fun f => f &&& (2 ^ n - 1 - f) == 0) = true := by decide +kernel
theorem face_cut {n f r : Nat} (hn : n ≤ 6) (hf : f < 2 ^ n) : Face n (f, r &&& (2 ^ n - 1 - f)) := by
  have := List.all_eq_true.mp (List.all_eq_true.mp full_tab n (List.mem_range.mpr (by omega))) f (List.mem_range.mpr hf)
  have hz : f &&& (2 ^ n - 1 - f) = 0 := by simpa using this
  have pos : 0 < 2 ^ n := Nat.two_pow_pos n
  refine ⟨hf, ?_, ?_⟩
  · show r &&& (2 ^ n - 1 - f) < 2 ^ n
    have : r &&& (2 ^ n - 1 - f) ≤ 2 ^ n - 1 - f := Nat.and_le_right
    omega
  · show f &&& (r &&& (2 ^ n - 1 - f)) = 0
    rw [Nat.and_comm r, ← Nat.and_assoc, hz, Nat.zero_and]
theorem face_full {n : Nat} : Face n (2 ^ n - 1, 0) := ⟨by have := Nat.two_pow_pos n; show 2 ^ n - 1 < 2 ^ n; omega, Nat.two_pow_pos n, Nat.and_zero _⟩
theorem face_pt {n c : Nat} (hc : c < 2 ^ n) : Face n (0, c) := ⟨Nat.two_pow_pos n, hc, Nat.zero_and _⟩
theorem faces_n {n : Nat} (hn : n ≤ 6) : Sp (t__law_faces n) (fun l => l.length ≤ 1000 ∧ 0 < l.length ∧ ∀ p ∈ l, Face n p) := by
  unfold t__law_faces
  have h64 := p64 hn
  have pos : 0 < 2 ^ n := Nat.two_pow_pos n
  refine sp_bb (sp_bl (pow2_ok (by omega)) (sp_bl (sub_ok (by omega)) (sp_ite (fun h => ?_) fun h => ?_)))
  · have h3 : n < 4 := by simpa using h
    have h8 : 2 ^ n ≤ 2 ^ 3 := Nat.pow_le_pow_right (by decide) (by omega)
    refine sp_br (sp_bb (sp_bb (sp_bl (pow2_ok (by omega)) (sp_bl (rg_ok (by omega)) (sp_bind (sp_rng (n := 2 ^ n) (fun i l => l.length ≤ i * 2 ^ n ∧ (0 < i → 0 < l.length) ∧ ∀ p ∈ l, Face n p) (fun i l hi ⟨l1, l2, l3⟩ => ?a) ⟨by simp, (fun h => by omega), fun p hp => by cases hp⟩) fun l ⟨l1, l2, l3⟩ => sp_ret ⟨?b, l2 pos, l3⟩)))))
    case b =>
      have := Nat.mul_le_mul h8 h8
      omega
    case a =>
      have hb : i * 2 ^ n ≤ 64 := by
        have := Nat.mul_le_mul (show i ≤ 8 by omega) h8
        omega
      refine sp_bb (sp_bb (sp_bb (sp_bb (sp_bl (pow2_ok (by omega)) (sp_bl (rg_ok (by omega)) (sp_bb (sp_bl (sz_ok (by rw [List.length_range]; omega)) (sp_bind (P := fun ys => ys = ((List.range (2 ^ n)).filter fun c => i &&& c == 0).map fun c => (i, c)) (sp_fm (fun c => i &&& c == 0) (fun c => (i, c)) (fun c _ => sp_ret rfl) (fun c _ _ => sp_ret rfl) rfl) fun ys e => ?_))))))))
      subst e
      have hfl := List.length_filter_le (fun c => i &&& c == 0) (List.range (2 ^ n))
      rw [List.length_range] at hfl
      refine sp_bl (cat_ok (by rw [List.length_map]; omega)) (sp_ret ⟨by rw [List.length_append, List.length_map, Nat.succ_mul]; omega, fun _ => ?_, fun p hp => ?_⟩)
      · rw [List.length_append, List.length_map]
        have : 0 ∈ (List.range (2 ^ n)).filter fun c => i &&& c == 0 := List.mem_filter.mpr ⟨List.mem_range.mpr pos, by simp⟩
        have := List.length_pos_of_mem this
        omega
      · rcases List.mem_append.mp hp with hp | hp
        · exact l3 p hp
        · obtain ⟨c, hc, rfl⟩ := List.mem_map.mp hp
          obtain ⟨h1, h2⟩ := List.mem_filter.mp hc
          exact ⟨hi, List.mem_range.mp h1, by simpa using h2⟩
  · have h3 : ¬ n < 4 := by simpa using h
    refine sp_bb (sp_bb (sp_bb (sp_bl (pow2_ok (by omega)) (sp_bd pos (by omega) fun c hc => sp_br (sp_br ?_)))))
    refine sp_bb (sp_bb (sp_bb (sp_bl (sub_ok (by omega)) (sp_bl (ix_getD (d := 0) (by simp; omega)) ?_))))
    have hk : ([20, 12, 8] : List Nat).getD (n - 4) 0 ≤ 20 := by
      rcases (show n = 4 ∨ n = 5 ∨ n = 6 by omega) with rfl | rfl | rfl <;> decide
    generalize ([20, 12, 8] : List Nat).getD (n - 4) 0 = k at hk
    refine sp_bl (rg_ok (by omega)) (sp_bind (sp_rng (n := k) (fun i l => l.length = i + 2 ∧ ∀ p ∈ l, Face n p) (fun i l hi ⟨l1, l2⟩ => ?a) ⟨rfl, fun p hp => ?b⟩) fun l ⟨l1, l2⟩ => sp_ret ⟨by omega, by omega, l2⟩)
    case a =>
      refine sp_bb (sp_bl (pow2_ok (by omega)) (sp_bd pos (by omega) fun f hf => sp_bb (sp_bb (sp_bb (sp_bb (sp_bl (pow2_ok (by omega)) (sp_bd pos (by omega) fun r hr => sp_bb (sp_bl (sub_ok (by omega)) (sp_br (sp_br (sp_bl (push_ok' (by omega)) (sp_ret ⟨by rw [List.length_append, l1]; rfl, fun p hp => ?_⟩))))))))))))
      rcases List.mem_append.mp hp with hp | hp
      · exact l2 p hp
      · have : p = (f, r &&& (2 ^ n - 1 - f)) := by simpa using hp
        subst this
        exact face_cut hn hf
    case b =>
      simp only [List.mem_cons, List.not_mem_nil, or_false] at hp
      rcases hp with rfl | rfl
      · exact face_full
      · exact face_pt hc
theorem pick_n {l : List Nat} (h0 : 0 < l.length) (h1 : l.length < 2 ^ 64) : Sp (t__law_pick_i2 l) (· ∈ l) := by
  unfold t__law_pick_i2
  exact sp_bd h0 h1 fun r hr => sp_lift (ix_ok hr) (List.getElem_mem _)
theorem and_sub {a f s : Nat} (hs : s &&& f = s) (h : a &&& f = 0) : a &&& s = 0 := by
  rw [← hs, Nat.and_comm s, ← Nat.and_assoc, h, Nat.zero_and]
theorem and_sub2 {a f s : Nat} (hs : s &&& f = s) (h : a &&& f = f) : a &&& s = s := by
  rw [← hs, Nat.and_comm s, ← Nat.and_assoc, h]
theorem cut_tab : (List.range 7).all (fun n => (List.range (2 ^ n)).all fun s => (List.range (2 ^ n)).all fun c => (c &&& (2 ^ n - 1 - s)) ||| (c &&& s) == c) = true := by decide +kernel
/-- the face through a corner -/
theorem cut_mem {n s c : Nat} (hn : n ≤ 6) (hs : s < 2 ^ n) (hc : c < 2 ^ n) : c ∈ cornN (s, c &&& (2 ^ n - 1 - s)) := by
  have h64 := p64 hn
  have := List.all_eq_true.mp (List.all_eq_true.mp (List.all_eq_true.mp cut_tab n (List.mem_range.mpr (by omega))) s (List.mem_range.mpr hs)) c (List.mem_range.mpr hc)
  exact List.mem_map.mpr ⟨c &&& s, mem_subs (by omega) (by rw [Nat.and_assoc, Nat.and_self]), by simpa using this⟩
theorem lohi {n : Nat} {cs : List Nat} {p : Nat × Nat} (A : Apart n cs) (hn : n ≤ 6) (F : Face n p) : ∃ l h, atN cs p 0 = [l] ∧ atN cs p p.1 = [h] ∧ t__law_lows cs p = some [l] ∧ t__law_highs cs p = some [h] ∧ t_low_of cs p = some l ∧ t_high_of cs p = some h ∧ l < 2 ^ n ∧ h < 2 ^ n := by
  obtain ⟨l, hl⟩ := named_one A hn F (zero_and' p.1)
  obtain ⟨h, hh⟩ := named_one A hn F (Nat.and_self p.1)
  have hl' : atN cs p 0 = [l] := hl
  have hh' : atN cs p p.1 = [h] := hh
  have a := lows_n hn A.len F
  have b := highs_n hn A.len F
  rw [hl'] at a
  rw [hh'] at b
  exact ⟨l, h, hl', hh', a, b, named_n hn A.len F (zero_and' p.1) hl', named_n hn A.len F (Nat.and_self p.1) hh', corn_lt F (at_mem (x := l) (by rw [hl']; simp)).1, corn_lt F (at_mem (x := h) (by rw [hh']; simp)).1⟩
theorem within_n {n : Nat} {cs : List Nat} (G : Good n cs) (hn : n ≤ 6) : Sp (t__law_is_within_right cs n) (· = true) := by
  unfold t__law_is_within_right
  have h64 := p64 hn
  have A := G.ap
  have pos : 0 < 2 ^ n := Nat.two_pow_pos n
  refine sp_bb (sp_bl (pow2_ok (by omega)) (sp_bl (sub_ok (by omega)) (sp_bb (sp_bb (sp_bd (by decide) (by decide) fun r0 _ => sp_br (sp_bind (P := fun f => f < 2 ^ n) (sp_ite (fun _ => sp_ret (by omega)) fun _ => sp_bl (pow2_ok (by omega)) (sp_draw pos (by omega) fun r hr => hr)) fun f hf => ?_))))))
  refine sp_bb (sp_bb (sp_bb (sp_bl (pow2_ok (by omega)) (sp_bd pos (by omega) fun r hr => sp_bb (sp_bl (sub_ok (by omega)) (sp_br (sp_br ?_)))))))
  have F := face_cut (r := r) hn hf
  generalize hp : (f, r &&& (2 ^ n - 1 - f)) = p at F
  have hpf : p.1 = f := by rw [← hp]
  obtain ⟨l, h, al, ah, ll, lh, lo, hi, llt, hlt⟩ := lohi A hn F
  have i0 : ∀ x : Nat, ixO [x] 0 = some x := fun x => rfl
  refine sp_bb (sp_bl ll (sp_bl (i0 l) (sp_bb (sp_bl lh (sp_bl (i0 h) (sp_bb (sp_bb (sp_bb (sp_bl lo (sp_bb (sp_bl hi (sp_br (sp_bl (same2 (l := [l, h]) ?_ (by simp)) (sp_br (sp_br (sp_ite (fun h => by cases h) fun _ => ?_))))))))))))))))
  · intro x hx
    simp only [List.mem_cons, List.not_mem_nil, or_false] at hx
    rcases hx with rfl | rfl <;> omega
  have cl := corn_len p
  have mem_l := at_mem (cs := cs) (p := p) (w := 0) (x := l) (by rw [al]; simp)
  have mem_h := at_mem (cs := cs) (p := p) (w := p.1) (x := h) (by rw [ah]; simp)
  refine sp_bb (sp_bb (sp_bb (sp_bl (corn_n hn F) ?_)))
  show PL.Sp (wM.bind (t__law_pick_i2 (cornN p)) _) _
  refine sp_bind (pick_n (List.length_pos_of_mem mem_l.1) (by omega)) fun c3 hc3 => sp_br (sp_br ?_)
  refine sp_bfoldR (fun rest _ => ∀ x ∈ rest, x ∈ enumN [l, h, c3]) (fun x hx => hx) (fun x rest _ hin => ?a) fun _ _ => sp_ret rfl
  case a =>
    have hx := hin x (List.mem_cons_self ..)
    have hrest := fun y hy => hin y (List.mem_cons_of_mem _ hy)
    have hxc : x.2 ∈ cornN p := by
      have := (enumN_mem hx).1
      simp only [List.mem_cons, List.not_mem_nil, or_false] at this
      rcases this with e | e | e <;> rw [e]
      · exact mem_l.1
      · exact mem_h.1
      · exact hc3
    have hx0 : x.1 = 0 → x.2 = l := fun e => by
      have := (enumN_mem hx).2
      rw [e] at this
      exact (Option.some.inj this).symm
    have hx1 : x.1 = 1 → x.2 = h := fun e => by
      have := (enumN_mem hx).2
      rw [e] at this
      exact (Option.some.inj this).symm
    have hxn := corn_lt F hxc
    refine sp_br (sp_bfoldR (fun _ (q : Nat × Nat) => q.1 < 2 ^ n ∧ q.1 &&& p.1 = q.1) ⟨F.f, Nat.and_self _⟩ (fun y rest2 q ⟨q1, q2⟩ => ?b) fun _ _ => sp_ret ⟨(), rfl, hrest⟩)
    case b =>
      refine sp_bb (sp_bb (sp_bb (sp_bl (pow2_ok (by omega)) (sp_bd pos (by omega) fun r1 _ => sp_bb (sp_bb (sp_bl (pow2_ok (by omega)) (sp_bd pos (by omega) fun r2 _ => sp_br (sp_br ?_))))))))
      have hs : q.1 &&& (r1 ||| r2) < 2 ^ n := Nat.lt_of_le_of_lt Nat.and_le_left q1
      have hsp : (q.1 &&& (r1 ||| r2)) &&& p.1 = q.1 &&& (r1 ||| r2) := by rw [Nat.and_comm q.1, Nat.and_assoc, q2]
      generalize q.1 &&& (r1 ||| r2) = s at hs hsp
      refine sp_bb (sp_bb (sp_bl (sub_ok (by omega)) (sp_br (sp_br ?_))))
      have F2 := face_cut (r := x.2) hn hs
      have hm := cut_mem hn hs hxn
      generalize hp2 : (s, x.2 &&& (2 ^ n - 1 - s)) = p2 at F2 hm
      have hs2 : p2.1 = s := by rw [← hp2]
      obtain ⟨l2, h2, al2, ah2, ll2, lh2, lo2, hi2, llt2, hlt2⟩ := lohi A hn F2
      refine sp_bb (sp_bl lo2 (sp_bb (sp_bl hi2 (sp_br ?_))))
      have e0 : x.1 = 0 → l2 = x.2 := fun e => by
        have h1 : cs.getD x.2 0 &&& p2.1 = 0 := by
          rw [hx0 e, hs2]
          exact and_sub hsp mem_l.2
        have := at_one A hn F2 (zero_and' _) hm h1
        rw [al2] at this
        simpa using this
      have e1 : x.1 = 1 → h2 = x.2 := fun e => by
        have h1 : cs.getD x.2 0 &&& p2.1 = p2.1 := by
          rw [hx1 e, hs2]
          exact and_sub2 hsp mem_h.2
        have := at_one A hn F2 (Nat.and_self _) hm h1
        rw [ah2] at this
        simpa using this
      refine sp_bind (P := fun z => z = false) (sp_ite (fun hk => ?_) fun _ => sp_ret rfl) fun z hz => ?_
      · have hk2 : x.1 < 2 := by simpa using hk
        have hix : ixO [l2, h2] x.1 = some x.2 := by
          rcases (show x.1 = 0 ∨ x.1 = 1 by omega) with e | e
          · rw [e, ← e0 e]; rfl
          · rw [e, ← e1 e]; rfl
        exact sp_bb (sp_bb (sp_bl hix (sp_bl (same4 (by omega)) (sp_br (sp_ret rfl)))))
      · subst hz
        refine sp_ite (fun h => by cases h) fun _ => ?_
        refine sp_bb (sp_bb (sp_bb (sp_bb (sp_bb (sp_bl ll2 (sp_bl (i0 l2) (sp_bb (sp_bb (sp_bl lh2 (sp_bl (i0 h2) (sp_br (sp_bl (same2 (l := [l2, h2]) ?_ (by simp)) (sp_br (sp_br (sp_ite (fun h => by cases h) fun _ => sp_ret ⟨p2, rfl, F2.f, by rw [hs2]; exact hsp⟩)))))))))))))))
        intro x hx
        simp only [List.mem_cons, List.not_mem_nil, or_false] at hx
        rcases hx with rfl | rfl <;> omega
theorem size_n : Sp t__law_size (fun n => n ≤ 6) := by
  unfold t__law_size
  refine sp_bd (by decide) (by decide) fun w hw => sp_ite (fun h => sp_lift (ix_getD (d := 0) (by simpa using h)) ?_) fun _ => sp_ite (fun _ => sp_ret (by decide)) fun _ => sp_ite (fun _ => sp_ret (by decide)) fun _ => sp_ret (by decide)
  have h6 : w < 6 := by simpa using h
  have : ∀ w, w < 6 → ([(6 : Nat), 5, 5, 0, 1, 1] : List Nat).getD w 0 ≤ 6 := by decide
  exact this w h6
theorem law_n : Sp t_law (fun b => b = true) := by
  unfold t_law
  refine sp_bind size_n fun n hn => ?_
  have h64 := p64 hn
  have pos : 0 < 2 ^ n := Nat.two_pow_pos n
  refine sp_bb (sp_bind (good_n hn) fun c0 G0 => sp_br ?_)
  refine sp_bind (P := fun z => z = true → 0 < n) (sp_ite (fun h => sp_ret fun _ => Nat.lt_trans (by decide) (show 4 < n by simpa using h)) fun _ => sp_ite (fun h => sp_bd (by decide) (by decide) fun r _ => sp_ret fun _ => by simpa using h) fun _ => sp_ret fun e => by cases e) fun near hnear => ?_
  refine sp_bb (sp_bind (P := Good n) (sp_ite (fun h => sp_bl (show ixO [c0] 0 = some c0 from rfl) (class_n hn (hnear h) G0)) fun _ => good_n hn) fun c1 G1 => sp_bl (push_ok' (by simp)) ?_)
  show PL.Sp (wM.bind (t__law_arrows n) _) _
  refine sp_bind (arrows_n hn) fun ar har => sp_bind (faces_n hn) fun fs ⟨f1, f2, f3⟩ => ?_
  have hc : ∀ c ∈ [c0] ++ [c1], Good n c := fun c h => by
    have : c = c0 ∨ c = c1 := by simpa using h
    rcases this with rfl | rfl <;> assumption
  refine sp_bfoldR (fun rest _ => ∀ x ∈ rest, x ∈ enumN fs) (fun x hx => hx) (fun x rest _ hin => ?a) fun _ _ => ?b
  case a =>
    have F := f3 x.2 (enumN_mem (hin x (List.mem_cons_self ..))).1
    have hrest := fun y hy => hin y (List.mem_cons_of_mem _ hy)
    refine sp_bfoldR (fun rest _ => ∀ c ∈ rest, c ∈ [c0] ++ [c1]) (fun c hc => hc) (fun c rest2 _ hin2 => ?c) fun _ _ => ?d
    case c =>
      have Gc := hc c (hin2 c (List.mem_cons_self ..))
      refine sp_bb (sp_bb (sp_bb (sp_bl (face_right Gc.ap hn F _) (sp_br (sp_br (sp_bif (fun h => by cases h) fun _ => sp_bb (sp_bb (sp_bl (named_right Gc.ap hn F _) (sp_br (sp_br (sp_ite (fun h => by cases h) fun _ => sp_ret ⟨(), rfl, fun y hy => hin2 y (List.mem_cons_of_mem _ hy)⟩)))))))))))
    case d =>
      have cl := corn_len x.2
      have fl0 := List.length_filter_le (fun v => ar.getD v 0 &&& x.2.1 == 0) (cornN x.2)
      have fl1 := List.length_filter_le (fun v => ar.getD v 0 &&& x.2.1 == x.2.1) (cornN x.2)
      refine sp_bb (sp_bl (lowc_n hn har F) (sp_bb (sp_bl (highc_n hn har F) (sp_br (sp_bb (sp_bb (sp_bb (sp_bl (lows_n hn har F) (sp_bb (sp_bl (highs_n hn har F) (sp_br (sp_bl (same3 (l := [atN ar x.2 0, atN ar x.2 x.2.1]) ?_ (by simp)) (sp_br (sp_br (sp_ite (fun h => by cases h) fun _ => sp_ret ⟨(), rfl, hrest⟩)))))))))))))))
      intro l hl
      simp only [List.mem_cons, List.not_mem_nil, or_false] at hl
      rcases hl with rfl | rfl
      · exact ro_l64 (fun v hv => by have := corn_lt F (at_mem hv).1; omega) (by unfold atN; omega)
      · exact ro_l64 (fun v hv => by have := corn_lt F (at_mem hv).1; omega) (by unfold atN; omega)
  case b =>
    refine sp_bfoldR (fun _ _ => True) trivial (fun t rest _ _ => ?e) fun _ _ => ?f
    case e =>
      have ht : t &&& 1 < 2 := by rw [Nat.and_one_is_mod]; exact Nat.mod_lt _ (by decide)
      refine sp_bb (sp_bb (sp_bb (sp_bl (ix_getD (d := []) (show t &&& 1 < ([c0] ++ [c1]).length from ht)) (sp_bind (within_n (hc _ ?_) hn) fun z hz => ?_))))
      · rw [List.getD_eq_getElem?_getD, List.getElem?_eq_getElem (show t &&& 1 < ([c0] ++ [c1]).length from ht)]
        exact List.getElem_mem _
      · subst hz
        exact sp_br (sp_br (sp_ite (fun h => by cases h) fun _ => sp_ret ⟨(), rfl, trivial⟩))
    case f =>
      refine sp_bb (sp_bb (sp_bind (P := fun l => l = [c0] ++ [c1] ∨ l = [c0]) (sp_ite (fun _ => sp_ret (.inl rfl)) fun _ => sp_ret (.inr rfl)) fun l hl => sp_br ?_))
      have hlc : ∀ c ∈ l, Good n c := fun c h => by
        rcases hl with rfl | rfl
        · exact hc c h
        · exact hc c (List.mem_append.mpr (.inl h))
      have hll : l.length ≤ 2 := by rcases hl with rfl | rfl <;> simp
      refine sp_bfoldR (fun rest _ => ∀ x ∈ rest, x ∈ enumN l) (fun x hx => hx) (fun x rest _ hin => ?g) fun _ _ => ?h
      case g =>
        have hm := enumN_mem (hin x (List.mem_cons_self ..))
        have Gx := hlc x.2 hm.1
        have hx1 : x.1 < 2 := by
          have := (List.getElem?_eq_some_iff.mp hm.2).1
          omega
        refine sp_bb (sp_bb (sp_bb (sp_bl (had_right Gx hn _) (sp_br (sp_br (sp_bif (fun h => by cases h) fun _ => sp_bind (P := fun z => z = false) (sp_ite (fun _ => ?_) fun _ => sp_ret rfl) fun z hz => ?_))))))
        · exact sp_bb (sp_bb (sp_bl (sub_ok (by omega)) (sp_bl (had_right Gx hn _) (sp_br (sp_ret rfl)))))
        · subst hz
          exact sp_ite (fun h => by cases h) fun _ => sp_ret ⟨(), rfl, fun y hy => hin y (List.mem_cons_of_mem _ hy)⟩
      case h =>
        have g0 : ∀ i, i < fs.length → ∃ p, ixO fs i = some p ∧ Face n p := fun i hi => ⟨fs[i], ix_ok hi, f3 _ (List.getElem_mem _)⟩
        obtain ⟨p0, e0, F0⟩ := g0 0 (by omega)
        obtain ⟨p1, e1, F1⟩ := g0 (fs.length - 1) (by omega)
        refine sp_bb (sp_bb (sp_bl e0 (sp_bb (sp_bb (sp_bl (sub_ok (by omega)) (sp_bl e1 (sp_br (sp_bb (sp_bl (sz_ok (by simp)) (sp_bind (P := fun ys => ys = [p0, p1].map fun _ => true) (sp_map _ (fun p hp => ?_) rfl) fun ys e => ?_))))))))))
        · have Fp : Face n p := by
            have : p = p0 ∨ p = p1 := by simpa using hp
            rcases this with rfl | rfl <;> assumption
          exact sp_bl (show ixO ([c0] ++ [c1]) 0 = some c0 from rfl) (sp_lift (face_right G0.ap hn Fp _) rfl)
        · subst e
          exact sp_ret rfl
end Cw
namespace Cw
open PySem PySem.Spec PyProof.Rows L2 PL
theorem r__law_size : JC wM f__law_size [eBag ()] (t__law_size) (some false) nI := by
 rw [← tq__law_size]
 refine jc_fn rfl ?_
 unfold q__law_size b__law_size
 exact (js_seq (js_asgF (ltb rfl) (jx_call (jl_cons (je_nm rfl) fun a_1 => (jl_cons (je_ret (e := eE nI) rfl) fun a_2 => (jl_nil (jl_nil (jx_end (r__law_draw a_2) ⟨rfl, rfl⟩ rfl))))))) fun way_3 =>
 (js_ifx (je_bol (je_b2 ob_lt (je_nm rfl) (je_ret (e := eE nI) rfl)))
 (js_ret (je_fr (je_b2 ob_ixL (je_fz (je_lst (jl_cons (je_ret (e := eE nI) rfl) fun d_7 => (jl_cons (je_ret (e := eE nI) rfl) fun d_8 => (jl_cons (je_ret (e := eE nI) rfl) fun d_9 => (jl_cons (je_ret (e := eE nI) rfl) fun d_10 => (jl_cons (je_ret (e := eE nI) rfl) fun d_11 => (jl_cons (je_ret (e := eE nI) rfl) fun d_12 => (jl_nil (je_lstE (enc := (eL nI)) (leb rfl) rfl)))))))))) (je_nm rfl)))) rt_nnx
 (js_ret (je_ite (je_bol (je_b2 ob_lt (je_nm rfl) (je_ret (e := eE nI) rfl))) (je_fr (je_ret (e := eE nI) rfl)) (je_ite (je_bol (je_b2 ob_lt (je_nm rfl) (je_ret (e := eE nI) rfl))) (je_fr (je_ret (e := eE nI) rfl)) (je_fr (je_ret (e := eE nI) rfl)))))))
theorem r__law_pick (some_0 : (List (List Nat))) : JC wM f__law_pick [eBag (), (eL (eT nI)) some_0] (t__law_pick some_0) (some false) (eT nI) := by
 rw [← tq__law_pick]
 refine jc_fn rfl ?_
 unfold q__law_pick b__law_pick
 exact (js_ret (je_fr (je_ixn ob_ixL rfl (je_fz (jx_call (jl_cons (je_nm rfl) fun a_2 => (jl_cons (je_fz (jx_un ou_len (je_pk rfl))) fun a_3 => (jl_nil (jl_nil (jx_end (r__law_draw a_3) ⟨rfl, rfl⟩ rfl))))))))))
theorem r__law_order (n_0 : Nat) : JC wM f__law_order [eBag (), nI n_0] (t__law_order n_0) (some false) (eT nI) := by
 rw [← tq__law_order]
 refine jc_fn rfl ?_
 unfold q__law_order b__law_order
 exact (js_ifx (je_and (je_bol (je_b2 ob_gt (je_nm rfl) (je_ret (e := eE nI) rfl))) (je_bol (je_b2 ob_eq (je_fz (jx_call (jl_cons (je_nm rfl) fun a_3 => (jl_cons (je_ret (e := eE nI) rfl) fun a_4 => (jl_nil (jl_nil (jx_end (r__law_draw a_4) ⟨rfl, rfl⟩ rfl))))))) (je_ret (e := eE nI) rfl))))
 (js_seq (js_asgF (ltb rfl) (jx_b2 ox_add (je_ret (e := eE nI) rfl) (je_fz (jx_call (jl_cons (je_nm rfl) fun a_10 => (jl_cons (je_nm rfl) fun a_11 => (jl_nil (jl_nil (jx_end (r__law_draw a_11) ⟨rfl, rfl⟩ rfl))))))))) fun step_15 =>
 (js_ret (je_fr (je_fz (jx_un ou_tup (je_fz (jx_lc (noat_cons rfl noat_nil) (je_rg1 (je_nm rfl)) (fun x_17 => (tg_name (ltb rfl))) (fun x_17 => (.s (.s (.s (.n (.s (.s (.s .nil)))))))) (fun x_17 => je_true) (fun x_17 => (je_b2 ob_mod (je_fz (jx_un ou_int (je_fz (jx_b2 ox_add (je_nm rfl) (je_nm rfl))))) (je_nm rfl)))))))))) rt_nnx
 (jp_par (jp_start (jp_cons (jx_lrg (je_nm rfl)) fun rest_29 => (jp_cons (je_lst (jl_nil (je_lstE (enc := (eL nI)) (leb rfl) rfl))) fun found_30 => (jp_nil rfl (fun i h => by simp at h; rcases h with rfl | rfl <;> exact ltb rfl) (js_seq (js_for (Γs := (fun s_32 : ((List Nat) × (List Nat)) => [.val (eBag ()), .val (nI n_0), .no, .no, .own ((eL nI) s_32.2), .own ((eL nI) s_32.1), .no])) (s0 := ((found_30, rest_29) : ((List Nat) × (List Nat)))) (je_rg1 (je_nm rfl)) (.s (.s (.s (.s (.s (.s (.s .nil))))))) (fun s_32 x_33 => (tg_name (ltb rfl))) (fun s_32 x_33 =>
 (js_last (js_pushV (fun p : Nat × List Nat => p.1) (fun _ => rfl) rfl (fun _ => rfl) (jv_popAt rfl (je_fz (jx_call (jl_cons (je_nm rfl) fun a_35 => (jl_cons (je_fz (jx_un ou_len (je_pk rfl))) fun a_36 => (jl_nil (jl_nil (jx_end (r__law_draw a_36) ⟨rfl, rfl⟩ rfl))))))))) fun found_39 =>
 (js_nxB (s := (found_39.2, found_39.1.2)) (.s (.s (.s (.s (.s (.s (.n .nil))))))))))) fun s_32 =>
 (js_ret (je_fr (je_fz (jx_un ou_tup (je_pk rfl))))))))))))
theorem r__law_ordered (arrows_0 : (List Nat)) (order_0 : (List Nat)) : JC oM f__law_ordered [(eT nI) arrows_0, (eT nI) order_0] (t__law_ordered arrows_0 order_0) (some false) (eT nI) := by
 rw [← tq__law_ordered]
 refine jc_fn rfl ?_
 unfold q__law_ordered b__law_ordered
 exact (jp_par (jp_start (jp_cons (je_lst (jl_cons (je_ret (e := eE nI) rfl) fun d_1 => (jl_nil (je_lstE (enc := (eL nI)) (leb rfl) rfl)))) fun table_6 => (jp_cons (jx_b2 ox_rep (je_fz (je_lst (jl_cons (je_ret (e := eE nI) rfl) fun d_2 => (jl_nil (je_lstE (enc := (eL nI)) (leb rfl) rfl))))) (je_fz (jx_un ou_lenT (je_pk rfl)))) fun found_7 => (jp_nil rfl (fun i h => by simp at h; rcases h with rfl | rfl <;> exact ltb rfl) (js_seq (js_for (Γs := (fun s_8 : (List Nat) => [.val ((eT nI) arrows_0), .val ((eT nI) order_0), .own ((eL nI) s_8), .own ((eL nI) found_7), .no, .no, .no])) (s0 := (table_6 : (List Nat))) (je_seqW (eT_seq _) (je_nm rfl)) (.s (.s (.s (.s (.s (.s (.s .nil))))))) (fun s_8 x_9 => (tg_name (ltb rfl))) (fun s_8 x_9 =>
 (js_last (js_wk (Γ' := [.val ((eT nI) arrows_0), .val ((eT nI) order_0), .val ((eL nI) s_8), .own ((eL nI) found_7), .val (nI x_9), .no, .no]) (.s (.s (.o (.s (.s (.s (.s .nil))))))) ((js_asgO (ltb rfl) (jx_b2 ox_cat (je_nm rfl) (je_fz (jx_lc (noat_cons rfl noat_nil) (je_seqW (eL_seq _) (je_nm rfl)) (fun x_10 => (tg_name (ltb rfl))) (fun x_10 => (.s (.s (.s (.s (.s (.n (.s .nil)))))))) (fun x_10 => je_true) (fun x_10 => (je_b2 ob_or (je_nm rfl) (je_b2 ob_shl1 (je_con rfl rfl) (je_nm rfl)))))))))) fun table_21 =>
 (js_nxB (s := table_21) (.s (.s (.s (.s (.n (.s (.s .nil))))))))))) fun s_8 =>
 (js_seq (js_for (Γs := (fun s_24 : (List Nat) => [.val ((eT nI) arrows_0), .val ((eT nI) order_0), .own ((eL nI) s_8), .own ((eL nI) s_24), .no, .no, .no])) (s0 := (found_7 : (List Nat))) (je_enum2 (enc := nI) (.inr fun _ => rfl) (je_nm rfl)) (.s (.s (.s (.s (.s (.s (.s .nil))))))) (fun s_24 x_25 => (tg_tup (ds := [nI x_25.1, nI x_25.2]) (.inl rfl) rfl (tgs_cons (tg_name (ltb rfl)) (tgs_cons (tg_name (ltb rfl)) tgs_nil)))) (fun s_24 x_25 =>
 (js_last (js_setI rfl (je_ixn ob_ixL rfl (je_nm rfl)) (je_ixn ob_ixL rfl (je_nm rfl))) fun found_28 =>
 (js_nxB (s := found_28) (.s (.s (.s (.s (.s (.n (.n .nil))))))))))) fun s_24 =>
 (js_ret (je_fr (je_fz (jx_un ou_tup (je_pk rfl))))))))))))
theorem r__law_moved (arrows_0 : (List Nat)) (order_0 : (List Nat)) (corner_0 : Nat) : JC oM f__law_moved [(eT nI) arrows_0, (eT nI) order_0, nI corner_0] (t__law_moved arrows_0 order_0 corner_0) (some false) (eT nI) := by
 rw [← tq__law_moved]
 refine jc_fn rfl ?_
 unfold q__law_moved b__law_moved
 exact (js_seq (js_asgF (ltb rfl) (jx_call (jl_cons (je_nm rfl) fun a_1 => (jl_cons (je_nm rfl) fun a_2 => (jl_nil (jl_nil (jx_end (r__law_ordered a_1 a_2) ⟨rfl, rfl⟩ rfl))))))) fun found_3 =>
 (js_ret (je_fr (je_fz (jx_un ou_tup (je_fz (jx_lc (noat_cons rfl noat_nil) (je_rg1 (je_fz (jx_un ou_lenT (je_pk rfl)))) (fun x_6 => (tg_name (ltb rfl))) (fun x_6 => (.s (.s (.s (.s (.n .nil)))))) (fun x_6 => je_true) (fun x_6 => (je_ixn ob_ixT rfl (je_b2 ob_xor (je_nm rfl) (je_nm rfl)))))))))))
theorem r__law_merged (marks_0 : (List Nat)) (pairs_0 : (List (Nat × Nat))) : JC oM f__law_merged [(eL nI) marks_0, (eL (eP nI nI)) pairs_0] (t__law_merged marks_0 pairs_0) (some true) (eL nI) := by
 rw [← tq__law_merged]
 refine jc_fn rfl ?_
 unfold q__law_merged b__law_merged
 exact (js_seq (js_asgO (ltb rfl) (jx_un ou_lst (je_pk rfl))) fun found_2 =>
 (js_seq (js_for (Γs := (fun s_3 : (List Nat) => [.val ((eL nI) marks_0), .val ((eL (eP nI nI)) pairs_0), .own ((eL nI) s_3), .no, .no, .no, .no, .no])) (s0 := (found_2 : (List Nat))) (je_seqW (eL_seq _) (je_nm rfl)) (.s (.s (.s (.s (.s (.s (.s (.s .nil)))))))) (fun s_3 x_4 => (tg_tup (ds := [nI x_4.1, nI x_4.2]) (.inl rfl) rfl (tgs_cons (tg_name (ltb rfl)) (tgs_cons (tg_name (ltb rfl)) tgs_nil)))) (fun s_3 x_4 =>
 (jp_par (jp_start (jp_cons (je_fr (je_ixn ob_ixL rfl (je_nm rfl))) fun kept_7 => (jp_cons (je_fr (je_ixn ob_ixL rfl (je_nm rfl))) fun gone_8 => (jp_nil rfl (fun i h => by simp at h; rcases h with rfl | rfl <;> exact ltb rfl) (js_if (je_bol (je_b2 ob_ne (je_nm rfl) (je_nm rfl)))
 (js_last (js_wk (Γ' := [.val ((eL nI) marks_0), .val ((eL (eP nI nI)) pairs_0), .val ((eL nI) s_3), .val (nI x_4.1), .val (nI x_4.2), .val (nI kept_7), .val (nI gone_8), .no]) (.s (.s (.o (.s (.s (.s (.s (.s .nil)))))))) ((js_asgO (ltb rfl) (jx_lc (noat_cons rfl noat_nil) (je_seqW (eL_seq _) (je_nm rfl)) (fun x_12 => (tg_name (ltb rfl))) (fun x_12 => (.s (.s (.s (.s (.s (.s (.s (.n .nil))))))))) (fun x_12 => je_true) (fun x_12 => (je_fz (je_ite (je_bol (je_b2 ob_eq (je_nm rfl) (je_nm rfl))) (je_fr (je_nm rfl)) (je_fr (je_nm rfl))))))))) fun found_18 =>
 (js_nxB (s := found_18) (.s (.s (.s (.n (.n (.n (.n (.s .nil))))))))))
 (js_nxB (s := s_3) (.s (.s (.s (.n (.n (.n (.n (.s .nil))))))))))))))))) fun s_3 =>
 (js_retO rfl)))
theorem r__law_class_turned (cube_0 : (List Nat)) (n_0 : Nat) : JC wM f__law_class_turned [eBag (), (eT nI) cube_0, nI n_0] (t__law_class_turned cube_0 n_0) (some false) (eT nI) := by
 rw [← tq__law_class_turned]
 refine jc_fn rfl ?_
 unfold q__law_class_turned b__law_class_turned
 exact (jp_par (jp_start (jp_cons (je_fr (je_b2 ob_shl1 (je_con rfl rfl) (je_fz (jx_call (jl_cons (je_nm rfl) fun a_1 => (jl_cons (je_nm rfl) fun a_2 => (jl_nil (jl_nil (jx_end (r__law_draw a_2) ⟨rfl, rfl⟩ rfl))))))))) fun bit_6 => (jp_cons (je_lst (jl_nil (je_lstE (enc := (eL (eP nI nI))) (leb rfl) rfl))) fun found_7 => (jp_nil rfl (fun i h => by simp at h; rcases h with rfl | rfl <;> exact ltb rfl) (js_seq (js_for (Γs := (fun s_10 : (List (Nat × Nat)) => [.val (eBag ()), .val ((eT nI) cube_0), .val (nI n_0), .val (nI bit_6), .own ((eL (eP nI nI)) s_10), .no, .no, .no, .no])) (s0 := (found_7 : (List (Nat × Nat)))) (je_rg1 (je_fz (jx_un ou_lenT (je_pk rfl)))) (.s (.s (.s (.s (.s (.s (.s (.s (.s .nil))))))))) (fun s_10 x_11 => (tg_name (ltb rfl))) (fun s_10 x_11 =>
 (js_last (js_for (Γs := (fun s_17 : (List (Nat × Nat)) => [.val (eBag ()), .val ((eT nI) cube_0), .val (nI n_0), .val (nI bit_6), .own ((eL (eP nI nI)) s_17), .val (nI x_11), .no, .no, .no])) (s0 := (s_10 : (List (Nat × Nat)))) (je_rg2 (je_fz (jx_b2 ox_add (je_nm rfl) (je_ret (e := eE nI) rfl))) (je_fz (jx_un ou_lenT (je_pk rfl)))) (.s (.s (.s (.s (.s (.s (.s (.s (.s .nil))))))))) (fun s_17 x_18 => (tg_name (ltb rfl))) (fun s_17 x_18 =>
 (js_if (je_bol (je_b2 ob_eq (je_b2 ob_and (je_b2 ob_xor (je_nm rfl) (je_nm rfl)) (je_b2 ob_xor (je_ixn ob_ixT rfl (je_nm rfl)) (je_ixn ob_ixT rfl (je_nm rfl)))) (je_nm rfl)))
 (js_last (js_push rfl (je_tup (jl_cons (je_nm rfl) fun d_34 => (jl_cons (je_nm rfl) fun d_35 => (jl_nil (je_tupE (enc := (eP nI nI)) (leb rfl) rfl)))))) fun found_36 =>
 (js_nxB (s := found_36) (.s (.s (.s (.s (.s (.s (.n (.s (.s .nil)))))))))))
 (js_nxB (s := s_17) (.s (.s (.s (.s (.s (.s (.n (.s (.s .nil))))))))))))) fun s_17 =>
 (js_nxB (s := s_17) (.s (.s (.s (.s (.s (.n (.s (.s (.s .nil))))))))))))) fun s_10 =>
 (js_seq (js_wk (Γ' := [.val (eBag ()), .val ((eT nI) cube_0), .val (nI n_0), .val (nI bit_6), .val ((eL (eP nI nI)) s_10), .no, .no, .no, .no]) (.s (.s (.s (.s (.o (.s (.s (.s (.s .nil))))))))) ((js_asgO (ltb rfl) (jx_b2 ox_cat (je_nm rfl) (je_fz (jx_lc (noat_cons rfl noat_nil) (je_rg1 (je_fz (jx_un ou_lenT (je_pk rfl)))) (fun x_45 => (tg_name (ltb rfl))) (fun x_45 => (.s (.s (.s (.s (.s (.n (.s (.s (.s .nil)))))))))) (fun x_45 => je_true) (fun x_45 => (je_tup (jl_cons (je_nm rfl) fun d_48 => (jl_cons (je_b2 ob_xor (je_nm rfl) (je_nm rfl)) fun d_49 => (jl_nil (je_tupE (enc := (eP nI nI)) (leb rfl) rfl)))))))))))) fun found_56 =>
 (js_seq (js_wk (Γ' := [.val (eBag ()), .val ((eT nI) cube_0), .val (nI n_0), .val (nI bit_6), .val ((eL (eP nI nI)) found_56), .no, .no, .no, .no]) (.s (.s (.s (.s (.o (.s (.s (.s (.s .nil))))))))) ((js_asgO (ltb rfl) (jx_call (jl_cons (je_fz (jx_lrg (je_fz (jx_un ou_lenT (je_pk rfl))))) fun a_59 => (jl_cons (je_nm rfl) fun a_60 => (jl_nil (jl_nil (jx_end (JC.up (r__law_merged a_59 a_60)) ⟨rfl, rfl⟩ rfl))))))))) fun marks_62 =>
 (js_seq (js_asgF (ltb rfl) (je_fr (je_ixn ob_ixL rfl (je_fz (jx_call (jl_cons (je_nm rfl) fun a_64 => (jl_cons (je_fz (jx_un ou_lenT (je_pk rfl))) fun a_65 => (jl_nil (jl_nil (jx_end (r__law_draw a_65) ⟨rfl, rfl⟩ rfl)))))))))) fun mark_68 =>
 (js_ret (je_fr (je_fz (jx_un ou_tup (je_fz (jx_lc (noat_cons rfl noat_nil) (je_rg1 (je_fz (jx_un ou_lenT (je_pk rfl)))) (fun x_71 => (tg_name (ltb rfl))) (fun x_71 => (.s (.s (.s (.s (.s (.n (.s (.s (.s .nil)))))))))) (fun x_71 => je_true) (fun x_71 => (je_fz (je_ite (je_bol (je_b2 ob_eq (je_ixn ob_ixL rfl (je_nm rfl)) (je_nm rfl))) (je_fr (je_b2 ob_xor (je_ixn ob_ixT rfl (je_nm rfl)) (je_nm rfl))) (je_fr (je_ixn ob_ixT rfl (je_nm rfl)))))))))))))))))))))
theorem r__law_tied (below_0 : (List Nat)) (above_0 : (List Nat)) : JC oM f__law_tied [(eT nI) below_0, (eT nI) above_0] (t__law_tied below_0 above_0) (some true) (eL (eP nI nI)) := by
 rw [← tq__law_tied]
 refine jc_fn rfl ?_
 unfold q__law_tied b__law_tied
 exact (js_seq (js_asgO (ltb rfl) (je_lst (jl_nil (je_lstE (enc := (eL (eP nI nI))) (leb rfl) rfl)))) fun found_1 =>
 (js_seq (js_for (Γs := (fun s_4 : (List (Nat × Nat)) => [.val ((eT nI) below_0), .val ((eT nI) above_0), .own ((eL (eP nI nI)) s_4), .no, .no])) (s0 := (found_1 : (List (Nat × Nat)))) (je_rg1 (je_fz (jx_un ou_lenT (je_pk rfl)))) (.s (.s (.s (.s (.s .nil))))) (fun s_4 x_5 => (tg_name (ltb rfl))) (fun s_4 x_5 =>
 (js_last (js_for (Γs := (fun s_11 : (List (Nat × Nat)) => [.val ((eT nI) below_0), .val ((eT nI) above_0), .own ((eL (eP nI nI)) s_11), .val (nI x_5), .no])) (s0 := (s_4 : (List (Nat × Nat)))) (je_rg2 (je_fz (jx_b2 ox_add (je_nm rfl) (je_ret (e := eE nI) rfl))) (je_fz (jx_un ou_lenT (je_pk rfl)))) (.s (.s (.s (.s (.s .nil))))) (fun s_11 x_12 => (tg_name (ltb rfl))) (fun s_11 x_12 =>
 (js_if (je_or (je_bol (je_b2 ob_eq (je_b2 ob_and (je_b2 ob_xor (je_nm rfl) (je_nm rfl)) (je_b2 ob_xor (je_ixn ob_ixT rfl (je_nm rfl)) (je_ixn ob_ixT rfl (je_nm rfl)))) (je_ret (e := eE nI) rfl))) (je_bol (je_b2 ob_eq (je_b2 ob_and (je_b2 ob_xor (je_nm rfl) (je_nm rfl)) (je_b2 ob_xor (je_ixn ob_ixT rfl (je_nm rfl)) (je_ixn ob_ixT rfl (je_nm rfl)))) (je_ret (e := eE nI) rfl))))
 (js_last (js_push rfl (je_tup (jl_cons (je_nm rfl) fun d_44 => (jl_cons (je_nm rfl) fun d_45 => (jl_nil (je_tupE (enc := (eP nI nI)) (leb rfl) rfl)))))) fun found_46 =>
 (js_nxB (s := found_46) (.s (.s (.s (.s (.n .nil)))))))
 (js_nxB (s := s_11) (.s (.s (.s (.s (.n .nil))))))))) fun s_11 =>
 (js_nxB (s := s_11) (.s (.s (.s (.n (.s .nil))))))))) fun s_4 =>
 (js_retO rfl)))
theorem r__law_joined (fn : Fn) (rec_0 : Nat → Wp (List Nat)) (hrec : ∀ (n_0 : Nat), JC wM fn [eBag (), nI n_0] (rec_0 n_0) none (eT nI)) (n_0 : Nat) : JC wM (fnM 2 12 (b__law_joined fn)) [eBag (), nI n_0] (t__law_joined rec_0 n_0) (some false) (eT nI) := by
 rw [← tq__law_joined]
 refine jc_fn rfl ?_
 unfold q__law_joined b__law_joined
 exact (js_ifx (je_bol (je_b2 ob_eq (je_nm rfl) (je_ret (e := eE nI) rfl)))
 (js_ret (je_fr (je_tup (jl_cons (je_ret (e := eE nI) rfl) fun d_4 => (jl_nil (je_tupE (enc := (eT nI)) (leb rfl) rfl)))))) rt_nnx
 (js_ifx (je_and (je_bol (je_b2 ob_eq (je_nm rfl) (je_ret (e := eE nI) rfl))) (je_bol (je_b2 ob_eq (je_fz (jx_call (jl_cons (je_nm rfl) fun a_7 => (jl_cons (je_ret (e := eE nI) rfl) fun a_8 => (jl_nil (jl_nil (jx_end (r__law_draw a_8) ⟨rfl, rfl⟩ rfl))))))) (je_ret (e := eE nI) rfl))))
 (js_seq (js_asgF (ltb rfl) (jx_call (jl_cons (je_nm rfl) fun a_41 => (jl_cons (je_fz (je_lst (jl_cons (je_tup (jl_cons (je_ret (e := eE nI) rfl) fun d_14 => (jl_cons (je_ret (e := eE nI) rfl) fun d_15 => (jl_cons (je_ret (e := eE nI) rfl) fun d_16 => (jl_cons (je_ret (e := eE nI) rfl) fun d_17 => (jl_cons (je_ret (e := eE nI) rfl) fun d_18 => (jl_cons (je_ret (e := eE nI) rfl) fun d_19 => (jl_cons (je_ret (e := eE nI) rfl) fun d_20 => (jl_cons (je_ret (e := eE nI) rfl) fun d_21 => (jl_nil (je_tupE (enc := (eT nI)) (leb rfl) rfl))))))))))) fun d_38 => (jl_cons (je_tup (jl_cons (je_ret (e := eE nI) rfl) fun d_22 => (jl_cons (je_ret (e := eE nI) rfl) fun d_23 => (jl_cons (je_ret (e := eE nI) rfl) fun d_24 => (jl_cons (je_ret (e := eE nI) rfl) fun d_25 => (jl_cons (je_ret (e := eE nI) rfl) fun d_26 => (jl_cons (je_ret (e := eE nI) rfl) fun d_27 => (jl_cons (je_ret (e := eE nI) rfl) fun d_28 => (jl_cons (je_ret (e := eE nI) rfl) fun d_29 => (jl_nil (je_tupE (enc := (eT nI)) (leb rfl) rfl))))))))))) fun d_39 => (jl_cons (je_tup (jl_cons (je_ret (e := eE nI) rfl) fun d_30 => (jl_cons (je_ret (e := eE nI) rfl) fun d_31 => (jl_cons (je_ret (e := eE nI) rfl) fun d_32 => (jl_cons (je_ret (e := eE nI) rfl) fun d_33 => (jl_cons (je_ret (e := eE nI) rfl) fun d_34 => (jl_cons (je_ret (e := eE nI) rfl) fun d_35 => (jl_cons (je_ret (e := eE nI) rfl) fun d_36 => (jl_cons (je_ret (e := eE nI) rfl) fun d_37 => (jl_nil (je_tupE (enc := (eT nI)) (leb rfl) rfl))))))))))) fun d_40 => (jl_nil (je_lstE (enc := (eL (eT nI))) (leb rfl) rfl))))))) fun a_42 => (jl_nil (jl_nil (jx_end (r__law_pick a_42) ⟨rfl, rfl⟩ rfl))))))) fun known_43 =>
 (js_ret (jx_call (jl_cons (je_nm rfl) fun a_48 => (jl_cons (je_fz (jx_call (jl_cons (je_nm rfl) fun a_44 => (jl_cons (je_ret (e := eE nI) rfl) fun a_45 => (jl_nil (jl_nil (jx_end (r__law_order a_45) ⟨rfl, rfl⟩ rfl))))))) fun a_49 => (jl_cons (je_fz (jx_call (jl_cons (je_nm rfl) fun a_46 => (jl_cons (je_ret (e := eE nI) rfl) fun a_47 => (jl_nil (jl_nil (jx_end (r__law_draw a_47) ⟨rfl, rfl⟩ rfl))))))) fun a_50 => (jl_nil (jl_nil (jx_end (JC.up (r__law_moved a_48 a_49 a_50)) ⟨rfl, rfl⟩ rfl))))))))) rt_nnx
 (jp_par (jp_start (jp_cons (jx_call (jl_cons (je_nm rfl) fun a_55 => (jl_cons (je_b2 ob_sub (je_nm rfl) (je_ret (e := eE nI) rfl)) fun a_56 => (jl_nil (jl_nil (jx_end (hrec a_56) ⟨rfl, rfl⟩ rfl)))))) fun below_60 => (jp_cons (jx_call (jl_cons (je_nm rfl) fun a_58 => (jl_cons (je_ret (e := eE nI) rfl) fun a_59 => (jl_nil (jl_nil (jx_end (r__law_draw a_59) ⟨rfl, rfl⟩ rfl)))))) fun way_61 => (jp_nil rfl (fun i h => by simp at h; rcases h with rfl | rfl <;> exact ltb rfl) (js_seq (js_asgF (ltb rfl) (je_fr (je_nm rfl))) fun above_62 =>
 (js_seq (Γf := fun s_69 : (List Nat) => [.val (eBag ()), .val (nI n_0), .no, .val ((eT nI) below_60), .val (nI way_61), .val ((eT nI) s_69), .no, .no, .no, .no, .no, .no]) (js_if (je_and (je_bol (je_b2 ob_eq (je_nm rfl) (je_ret (e := eE nI) rfl))) (je_bol (je_b2 ob_gt (je_nm rfl) (je_ret (e := eE nI) rfl))))
 (js_last (js_asgF (ltb rfl) (jx_call (jl_cons (je_nm rfl) fun a_72 => (jl_cons (je_nm rfl) fun a_73 => (jl_cons (je_b2 ob_sub (je_nm rfl) (je_ret (e := eE nI) rfl)) fun a_74 => (jl_nil (jl_nil (jx_end (r__law_class_turned a_73 a_74) ⟨rfl, rfl⟩ rfl)))))))) fun above_76 =>
 (js_nx (s := above_76) (.s (.s (.s (.s (.s (.s (.s (.s (.s (.s (.s (.s .nil))))))))))))))
 (js_if (je_bol (je_b2 ob_gt (je_nm rfl) (je_ret (e := eE nI) rfl)))
 (js_last (js_asgF (ltb rfl) (jx_call (jl_cons (je_nm rfl) fun a_82 => (jl_cons (je_b2 ob_sub (je_nm rfl) (je_ret (e := eE nI) rfl)) fun a_83 => (jl_nil (jl_nil (jx_end (hrec a_83) ⟨rfl, rfl⟩ rfl))))))) fun above_85 =>
 (js_nx (s := above_85) (.s (.s (.s (.s (.s (.s (.s (.s (.s (.s (.s (.s .nil))))))))))))))
 (js_nx (s := above_62) (.s (.s (.s (.s (.s (.s (.s (.s (.s (.s (.s (.s .nil))))))))))))))) fun s_69 =>
 (js_seq (js_asgO (ltb rfl) (jx_call (jl_cons (je_fz (jx_lrg (je_fz (jx_un ou_lenT (je_pk rfl))))) fun a_91 => (jl_cons (je_fz (jx_call (jl_cons (je_nm rfl) fun a_89 => (jl_cons (je_nm rfl) fun a_90 => (jl_nil (jl_nil (jx_end (JC.up (r__law_tied a_89 a_90)) ⟨rfl, rfl⟩ rfl))))))) fun a_92 => (jl_nil (jl_nil (jx_end (JC.up (r__law_merged a_91 a_92)) ⟨rfl, rfl⟩ rfl))))))) fun marks_95 =>
 (js_seq (js_wk (Γ' := [.val (eBag ()), .val (nI n_0), .no, .val ((eT nI) below_60), .val (nI way_61), .val ((eT nI) s_69), .val ((eL nI) marks_95), .no, .no, .no, .no, .no]) (.s (.s (.s (.s (.s (.s (.o (.s (.s (.s (.s (.s .nil)))))))))))) ((js_asgO (ltb rfl) (jx_lc (noat_cons rfl noat_nil) (je_seqW (eL_seq _) (je_nm rfl)) (fun x_96 => (tg_name (ltb rfl))) (fun x_96 => (.s (.s (.s (.s (.s (.s (.s (.n (.s (.s (.s (.s .nil))))))))))))) (fun x_96 => je_true) (fun x_96 => (je_b2 ob_shl (je_fz (jx_call (jl_cons (je_nm rfl) fun a_97 => (jl_cons (je_ret (e := eE nI) rfl) fun a_98 => (jl_nil (jl_nil (jx_end (r__law_draw a_98) ⟨rfl, rfl⟩ rfl))))))) (je_b2 ob_sub (je_nm rfl) (je_ret (e := eE nI) rfl)))))))) fun ups_107 =>
 (js_seq (js_asgF (ltb rfl) (je_fr (je_b2 ob_shl1 (je_con rfl rfl) (je_b2 ob_sub (je_nm rfl) (je_ret (e := eE nI) rfl))))) fun top_113 =>
 (js_seq (js_asgO (ltb rfl) (jx_lc (noat_cons rfl noat_nil) (je_rg1 (je_fz (jx_un ou_lenT (je_pk rfl)))) (fun x_116 => (tg_name (ltb rfl))) (fun x_116 => (.s (.s (.s (.s (.s (.s (.s (.s (.s (.s (.n (.s .nil))))))))))))) (fun x_116 => je_true) (fun x_116 => (je_b2 ob_or (je_ixn ob_ixT rfl (je_nm rfl)) (je_ixn ob_ixL rfl (je_ixn ob_ixL rfl (je_nm rfl))))))) fun low_128 =>
 (js_wk (Γ' := [.val (eBag ()), .val (nI n_0), .no, .val ((eT nI) below_60), .val (nI way_61), .val ((eT nI) s_69), .val ((eL nI) marks_95), .no, .own ((eL nI) ups_107), .val (nI top_113), .no, .val ((eL nI) low_128)]) (.s (.s (.s (.s (.s (.s (.s (.s (.s (.s (.s (.o .nil)))))))))))) ((js_ret (je_fr (je_fz (jx_un ou_tup (je_fz (jx_b2 ox_cat (je_nm rfl) (je_fz (jx_lc (noat_cons rfl noat_nil) (je_rg1 (je_fz (jx_un ou_lenT (je_pk rfl)))) (fun x_131 => (tg_name (ltb rfl))) (fun x_131 => (.s (.s (.s (.s (.s (.s (.s (.s (.s (.s (.n (.s .nil))))))))))))) (fun x_131 => je_true) (fun x_131 => (je_b2 ob_or (je_ixn ob_ixT rfl (je_nm rfl)) (je_b2 ob_sub (je_nm rfl) (je_ixn ob_ixL rfl (je_ixn ob_ixL rfl (je_nm rfl)))))))))))))))))))))))))))))
theorem r__law_joined_k : ∀ (k : Nat) (n_0 : Nat), JC wM (f__law_joined_k k) [eBag (), nI n_0] (t__law_joined_k k n_0) none (eT nI)
  | 0, n_0 => JC.none
  | k + 1, n_0 => JC.ko (r__law_joined (f__law_joined_k k) (t__law_joined_k k) (r__law_joined_k k) n_0)
theorem r__law_good (n_0 : Nat) : JC wM f__law_good [eBag (), nI n_0] (t__law_good n_0) none (eT nI) := by
 rw [← tq__law_good]
 refine jc_fn rfl ?_
 unfold q__law_good b__law_good
 exact (js_seq (js_asgF (ltb rfl) (jx_call (jl_cons (je_nm rfl) fun a_1 => (jl_cons (je_nm rfl) fun a_2 => (jl_nil (jl_nil (jx_end (r__law_joined_k 8 a_2) ⟨rfl, rfl⟩ rfl))))))) fun cube_3 =>
 (js_seq (js_for (Γs := (fun s_12 : (List Nat) => [.val (eBag ()), .val (nI n_0), .val ((eT nI) s_12), .no])) (s0 := (cube_3 : (List Nat))) (je_rg1 (je_fz (jx_call (jl_cons (je_nm rfl) fun a_7 => (jl_cons (je_fz (je_ite (je_bol (je_b2 ob_lt (je_nm rfl) (je_ret (e := eE nI) rfl))) (je_fr (je_ret (e := eE nI) rfl)) (je_fr (je_ret (e := eE nI) rfl)))) fun a_8 => (jl_nil (jl_nil (jx_end (r__law_draw a_8) ⟨rfl, rfl⟩ rfl)))))))) (.s (.s (.s (.s .nil)))) (fun s_12 x_13 => (tg_name (ltb rfl))) (fun s_12 x_13 =>
 (js_if (je_bol (je_b2 ob_gt (je_nm rfl) (je_ret (e := eE nI) rfl)))
 (js_last (js_asgF (ltb rfl) (jx_call (jl_cons (je_nm rfl) fun a_17 => (jl_cons (je_nm rfl) fun a_18 => (jl_cons (je_nm rfl) fun a_19 => (jl_nil (jl_nil (jx_end (r__law_class_turned a_18 a_19) ⟨rfl, rfl⟩ rfl)))))))) fun cube_20 =>
 (js_nxB (s := cube_20) (.s (.s (.s (.n .nil))))))
 (js_nxB (s := s_12) (.s (.s (.s (.n .nil)))))))) fun s_12 =>
 (js_seq (Γf := fun s_29 : (List Nat) => [.val (eBag ()), .val (nI n_0), .val ((eT nI) s_29), .no]) (js_if (je_bol (je_b2 ob_eq (je_fz (jx_call (jl_cons (je_nm rfl) fun a_23 => (jl_cons (je_ret (e := eE nI) rfl) fun a_24 => (jl_nil (jl_nil (jx_end (r__law_draw a_24) ⟨rfl, rfl⟩ rfl))))))) (je_ret (e := eE nI) rfl)))
 (js_last (js_asgF (ltb rfl) (jx_call (jl_cons (je_nm rfl) fun a_35 => (jl_cons (je_fz (jx_call (jl_cons (je_nm rfl) fun a_30 => (jl_cons (je_nm rfl) fun a_31 => (jl_nil (jl_nil (jx_end (r__law_order a_31) ⟨rfl, rfl⟩ rfl))))))) fun a_36 => (jl_cons (je_fz (jx_call (jl_cons (je_nm rfl) fun a_33 => (jl_cons (je_fz (jx_un ou_lenT (je_pk rfl))) fun a_34 => (jl_nil (jl_nil (jx_end (r__law_draw a_34) ⟨rfl, rfl⟩ rfl))))))) fun a_37 => (jl_nil (jl_nil (jx_end (JC.up (r__law_moved a_35 a_36 a_37)) ⟨rfl, rfl⟩ rfl)))))))) fun cube_40 =>
 (js_nx (s := cube_40) (.s (.s (.s (.s .nil))))))
 (js_nx (s := s_12) (.s (.s (.s (.s .nil)))))) fun s_29 =>
 (js_retN rfl))))
theorem r__law_arrows (n_0 : Nat) : JC wM f__law_arrows [eBag (), nI n_0] (t__law_arrows n_0) (some false) (eT nI) := by
 rw [← tq__law_arrows]
 refine jc_fn rfl ?_
 unfold q__law_arrows b__law_arrows
 exact (js_seq (js_asgO (ltb rfl) (jx_b2 ox_rep (je_fz (je_lst (jl_cons (je_ret (e := eE nI) rfl) fun d_1 => (jl_nil (je_lstE (enc := (eL nI)) (leb rfl) rfl))))) (je_b2 ob_shl1 (je_con rfl rfl) (je_nm rfl)))) fun found_7 =>
 (js_seq (js_for (Γs := (fun s_9 : (List Nat) => [.val (eBag ()), .val (nI n_0), .own ((eL nI) s_9), .no, .no, .no])) (s0 := (found_7 : (List Nat))) (je_rg1 (je_nm rfl)) (.s (.s (.s (.s (.s (.s .nil)))))) (fun s_9 x_10 => (tg_name (ltb rfl))) (fun s_9 x_10 =>
 (js_last (js_for (Γs := (fun s_15 : (List Nat) => [.val (eBag ()), .val (nI n_0), .own ((eL nI) s_15), .val (nI x_10), .no, .no])) (s0 := (s_9 : (List Nat))) (je_rg1 (je_b2 ob_shl1 (je_con rfl rfl) (je_nm rfl))) (.s (.s (.s (.s (.s (.s .nil)))))) (fun s_15 x_16 => (tg_name (ltb rfl))) (fun s_15 x_16 =>
 (js_if (je_bol (je_b2 ob_eq (je_b2 ob_and (je_b2 ob_shr (je_nm rfl) (je_nm rfl)) (je_ret (e := eE nI) rfl)) (je_ret (e := eE nI) rfl)))
 (js_seq (js_asgF (ltb rfl) (je_fr (je_b2 ob_or (je_nm rfl) (je_b2 ob_shl (je_fz (jx_call (jl_cons (je_nm rfl) fun a_24 => (jl_cons (je_ret (e := eE nI) rfl) fun a_25 => (jl_nil (jl_nil (jx_end (r__law_draw a_25) ⟨rfl, rfl⟩ rfl))))))) (je_nm rfl))))) fun end_32 =>
 (js_last (js_setI rfl (je_b2 ob_or (je_ixn ob_ixL rfl (je_nm rfl)) (je_b2 ob_shl1 (je_con rfl rfl) (je_nm rfl))) (je_nm rfl)) fun found_40 =>
 (js_nxB (s := found_40) (.s (.s (.s (.s (.n (.n .nil)))))))))
 (js_nxB (s := s_15) (.s (.s (.s (.s (.n (.s .nil)))))))))) fun s_15 =>
 (js_nxB (s := s_15) (.s (.s (.s (.n (.s (.s .nil)))))))))) fun s_9 =>
 (js_ret (je_fr (je_fz (jx_un ou_tup (je_pk rfl)))))))
theorem r__law_faces (n_0 : Nat) : JC wM f__law_faces [eBag (), nI n_0] (t__law_faces n_0) (some true) (eL (eP nI nI)) := by
 rw [← tq__law_faces]
 refine jc_fn rfl ?_
 unfold q__law_faces b__law_faces
 exact (js_seq (js_asgF (ltb rfl) (je_fr (je_b2 ob_sub (je_b2 ob_shl1 (je_con rfl rfl) (je_nm rfl)) (je_ret (e := eE nI) rfl)))) fun full_6 =>
 (js_ifx (je_bol (je_b2 ob_lt (je_nm rfl) (je_ret (e := eE nI) rfl)))
 (js_seq (js_asgO (ltb rfl) (je_lst (jl_nil (je_lstE (enc := (eL (eP nI nI))) (leb rfl) rfl)))) fun found_10 =>
 (js_seq (js_for (Γs := (fun s_15 : (List (Nat × Nat)) => [.val (eBag ()), .val (nI n_0), .val (nI full_6), .own ((eL (eP nI nI)) s_15), .no, .no, .no])) (s0 := (found_10 : (List (Nat × Nat)))) (je_rg1 (je_b2 ob_shl1 (je_con rfl rfl) (je_nm rfl))) (.s (.s (.s (.s (.s (.s (.s .nil))))))) (fun s_15 x_16 => (tg_name (ltb rfl))) (fun s_15 x_16 =>
 (js_last (js_ext rfl (je_fz (jx_lc (noat_cons rfl noat_nil) (je_rg1 (je_b2 ob_shl1 (je_con rfl rfl) (je_nm rfl))) (fun x_21 => (tg_name (ltb rfl))) (fun x_21 => (.s (.s (.s (.s (.s (.n (.s .nil)))))))) (fun x_21 => (je_bol (je_b2 ob_eq (je_b2 ob_and (je_nm rfl) (je_nm rfl)) (je_ret (e := eE nI) rfl)))) (fun x_21 => (je_tup (jl_cons (je_nm rfl) fun d_26 => (jl_cons (je_nm rfl) fun d_27 => (jl_nil (je_tupE (enc := (eP nI nI)) (leb rfl) rfl))))))))) fun found_31 =>
 (js_nxB (s := found_31) (.s (.s (.s (.s (.n (.s (.s .nil))))))))))) fun s_15 =>
 (js_retO rfl))) rt_nnx
 (js_seq (js_asgO (ltb rfl) (je_lst (jl_cons (je_tup (jl_cons (je_nm rfl) fun d_36 => (jl_cons (je_ret (e := eE nI) rfl) fun d_37 => (jl_nil (je_tupE (enc := (eP nI nI)) (leb rfl) rfl))))) fun d_46 => (jl_cons (je_tup (jl_cons (je_ret (e := eE nI) rfl) fun d_43 => (jl_cons (je_fz (jx_call (jl_cons (je_nm rfl) fun a_40 => (jl_cons (je_b2 ob_shl1 (je_con rfl rfl) (je_nm rfl)) fun a_41 => (jl_nil (jl_nil (jx_end (r__law_draw a_41) ⟨rfl, rfl⟩ rfl))))))) fun d_44 => (jl_nil (je_tupE (enc := (eP nI nI)) (leb rfl) rfl))))) fun d_47 => (jl_nil (je_lstE (enc := (eL (eP nI nI))) (leb rfl) rfl)))))) fun found_49 =>
 (js_seq (js_for (Γs := (fun s_60 : (List (Nat × Nat)) => [.val (eBag ()), .val (nI n_0), .val (nI full_6), .own ((eL (eP nI nI)) s_60), .no, .no, .no])) (s0 := (found_49 : (List (Nat × Nat)))) (je_rg1 (je_b2 ob_ixL (je_fz (je_lst (jl_cons (je_ret (e := eE nI) rfl) fun d_50 => (jl_cons (je_ret (e := eE nI) rfl) fun d_51 => (jl_cons (je_ret (e := eE nI) rfl) fun d_52 => (jl_nil (je_lstE (enc := (eL nI)) (leb rfl) rfl))))))) (je_b2 ob_sub (je_nm rfl) (je_ret (e := eE nI) rfl)))) (.s (.s (.s (.s (.s (.s (.s .nil))))))) (fun s_60 x_61 => (tg_name (ltb rfl))) (fun s_60 x_61 =>
 (js_seq (js_asgF (ltb rfl) (jx_call (jl_cons (je_nm rfl) fun a_64 => (jl_cons (je_b2 ob_shl1 (je_con rfl rfl) (je_nm rfl)) fun a_65 => (jl_nil (jl_nil (jx_end (r__law_draw a_65) ⟨rfl, rfl⟩ rfl))))))) fun free_67 =>
 (js_last (js_push rfl (je_tup (jl_cons (je_nm rfl) fun d_79 => (jl_cons (je_b2 ob_and (je_fz (jx_call (jl_cons (je_nm rfl) fun a_70 => (jl_cons (je_b2 ob_shl1 (je_con rfl rfl) (je_nm rfl)) fun a_71 => (jl_nil (jl_nil (jx_end (r__law_draw a_71) ⟨rfl, rfl⟩ rfl))))))) (je_b2 ob_sub (je_nm rfl) (je_nm rfl))) fun d_80 => (jl_nil (je_tupE (enc := (eP nI nI)) (leb rfl) rfl)))))) fun found_82 =>
 (js_nxB (s := found_82) (.s (.s (.s (.s (.n (.s (.n .nil)))))))))))) fun s_60 =>
 (js_retO rfl)))))
theorem r__law_corners (face_0 : (Nat × Nat)) : JC oM f__law_corners [(eP nI nI) face_0] (t__law_corners face_0) (some true) (eL nI) := by
 rw [← tq__law_corners]
 refine jc_fn rfl ?_
 unfold q__law_corners b__law_corners
 exact (js_seq (js_asgO (ltb rfl) (je_lst (jl_cons (je_ixn (show OpB ixD (eP nI nI) (fun _ : Unit => .int 1) nI (fun p _ => some p.2) from fun p _ z h => by cases h; rfl) rfl (je_con rfl rfl)) fun d_2 => (jl_nil (je_lstE (enc := (eL nI)) (leb rfl) rfl))))) fun found_3 =>
 (js_seq (js_for (Γs := (fun s_5 : (List Nat) => [.val ((eP nI nI) face_0), .own ((eL nI) s_5), .no, .no])) (s0 := (found_3 : (List Nat))) (je_rg1 (je_ret (e := eE nI) rfl)) (.s (.s (.s (.s .nil)))) (fun s_5 x_6 => (tg_name (ltb rfl))) (fun s_5 x_6 =>
 (js_if (je_bol (je_b2 ob_eq (je_b2 ob_and (je_b2 ob_shr (je_ixn (show OpB ixD (eP nI nI) (fun _ : Unit => .int 0) nI (fun p _ => some p.1) from fun p _ z h => by cases h; rfl) rfl (je_con rfl rfl)) (je_nm rfl)) (je_ret (e := eE nI) rfl)) (je_ret (e := eE nI) rfl)))
 (js_last (js_wk (Γ' := [.val ((eP nI nI) face_0), .val ((eL nI) s_5), .val (nI x_6), .no]) (.s (.o (.s (.s .nil)))) ((js_asgO (ltb rfl) (jx_b2 ox_cat (je_nm rfl) (je_fz (jx_lc (noat_cons rfl noat_nil) (je_seqW (eL_seq _) (je_nm rfl)) (fun x_15 => (tg_name (ltb rfl))) (fun x_15 => (.s (.s (.s (.n .nil))))) (fun x_15 => je_true) (fun x_15 => (je_b2 ob_or (je_nm rfl) (je_b2 ob_shl1 (je_con rfl rfl) (je_nm rfl)))))))))) fun found_26 =>
 (js_nxB (s := found_26) (.s (.s (.n (.s .nil))))))
 (js_nxB (s := s_5) (.s (.s (.n (.s .nil)))))))) fun s_5 =>
 (js_ret (jx_un ou_sort (je_pk rfl)))))
theorem r__law_lows (arrows_0 : (List Nat)) (face_0 : (Nat × Nat)) : JC oM f__law_lows [(eT nI) arrows_0, (eP nI nI) face_0] (t__law_lows arrows_0 face_0) (some false) (eT nI) := by
 rw [← tq__law_lows]
 refine jc_fn rfl ?_
 unfold q__law_lows b__law_lows
 exact (js_ret (je_fr (je_fz (jx_un ou_tup (je_fz (jx_lc (noat_cons rfl noat_nil) (je_seqW (eL_seq _) (je_fz (jx_call (jl_cons (je_nm rfl) fun a_1 => (jl_nil (jl_nil (jx_end (r__law_corners a_1) ⟨rfl, rfl⟩ rfl))))))) (fun x_2 => (tg_name (ltb rfl))) (fun x_2 => (.s (.s (.n .nil)))) (fun x_2 => (je_bol (je_b2 ob_eq (je_b2 ob_and (je_ixn ob_ixT rfl (je_nm rfl)) (je_ixn (show OpB ixD (eP nI nI) (fun _ : Unit => .int 0) nI (fun p _ => some p.1) from fun p _ z h => by cases h; rfl) rfl (je_con rfl rfl))) (je_ret (e := eE nI) rfl)))) (fun x_2 => (je_nm rfl))))))))
theorem r__law_highs (arrows_0 : (List Nat)) (face_0 : (Nat × Nat)) : JC oM f__law_highs [(eT nI) arrows_0, (eP nI nI) face_0] (t__law_highs arrows_0 face_0) (some false) (eT nI) := by
 rw [← tq__law_highs]
 refine jc_fn rfl ?_
 unfold q__law_highs b__law_highs
 exact (js_ret (je_fr (je_fz (jx_un ou_tup (je_fz (jx_lc (noat_cons rfl noat_nil) (je_seqW (eL_seq _) (je_fz (jx_call (jl_cons (je_nm rfl) fun a_1 => (jl_nil (jl_nil (jx_end (r__law_corners a_1) ⟨rfl, rfl⟩ rfl))))))) (fun x_2 => (tg_name (ltb rfl))) (fun x_2 => (.s (.s (.n .nil)))) (fun x_2 => (je_bol (je_b2 ob_eq (je_b2 ob_and (je_ixn ob_ixT rfl (je_nm rfl)) (je_ixn (show OpB ixD (eP nI nI) (fun _ : Unit => .int 0) nI (fun p _ => some p.1) from fun p _ z h => by cases h; rfl) rfl (je_con rfl rfl))) (je_ixn (show OpB ixD (eP nI nI) (fun _ : Unit => .int 0) nI (fun p _ => some p.1) from fun p _ z h => by cases h; rfl) rfl (je_con rfl rfl))))) (fun x_2 => (je_nm rfl))))))))
theorem r__law_many (some_0 : Nat) : JC oM f__law_many [nI some_0] (t__law_many some_0) (some false) nI := by
 rw [← tq__law_many]
 refine jc_fn rfl ?_
 unfold q__law_many b__law_many
 exact (js_ret (je_fr (je_fz (jx_un ou_sum2 (je_fz (jx_lc (noat_cons rfl noat_nil) (je_rg1 (je_ret (e := eE nI) rfl)) (fun x_2 => (tg_name (ltb rfl))) (fun x_2 => (.s (.n .nil))) (fun x_2 => je_true) (fun x_2 => (je_b2 ob_and (je_b2 ob_shr (je_nm rfl) (je_nm rfl)) (je_ret (e := eE nI) rfl)))))))))
theorem r__law_binomials (many_0 : Nat) : JC oM f__law_binomials [nI many_0] (t__law_binomials many_0) (some false) (eT nI) := by
 rw [← tq__law_binomials]
 refine jc_fn rfl ?_
 unfold q__law_binomials b__law_binomials
 exact (js_seq (js_asgO (ltb rfl) (je_lst (jl_cons (je_ret (e := eE nI) rfl) fun d_1 => (jl_nil (je_lstE (enc := (eL nI)) (leb rfl) rfl))))) fun row_2 =>
 (js_seq (js_for (Γs := (fun s_4 : (List Nat) => [.val (nI many_0), .own ((eL nI) s_4), .no, .no])) (s0 := (row_2 : (List Nat))) (je_rg1 (je_nm rfl)) (.s (.s (.s (.s .nil)))) (fun s_4 x_5 => (tg_name (ltb rfl))) (fun s_4 x_5 =>
 (js_last (js_asgO (ltb rfl) (jx_b2 ox_cat (je_fz (jx_b2 ox_cat (je_fz (je_lst (jl_cons (je_ret (e := eE nI) rfl) fun d_6 => (jl_nil (je_lstE (enc := (eL nI)) (leb rfl) rfl))))) (je_fz (jx_lc (noat_cons rfl noat_nil) (je_rg1 (je_b2 ob_sub (je_fz (jx_un ou_len (je_pk rfl))) (je_ret (e := eE nI) rfl))) (fun x_12 => (tg_name (ltb rfl))) (fun x_12 => (.s (.s (.s (.n .nil))))) (fun x_12 => je_true) (fun x_12 => (je_fz (jx_b2 ox_add (je_ixn ob_ixL rfl (je_nm rfl)) (je_ixn ob_ixL rfl (je_fz (jx_b2 ox_add (je_nm rfl) (je_ret (e := eE nI) rfl))))))))))) (je_fz (je_lst (jl_cons (je_ret (e := eE nI) rfl) fun d_27 => (jl_nil (je_lstE (enc := (eL nI)) (leb rfl) rfl))))))) fun row_31 =>
 (js_nxB (s := row_31) (.s (.s (.n (.s .nil)))))))) fun s_4 =>
 (js_ret (je_fr (je_fz (jx_un ou_tup (je_pk rfl)))))))
theorem r_subsets_of (ways_0 : Nat) : JC oM f_subsets_of [nI ways_0] (t_subsets_of ways_0) (some true) (eL nI) := by
 rw [← tq_subsets_of]
 refine jc_fn rfl ?_
 unfold q_subsets_of b_subsets_of
 exact (js_seq (js_asgO (ltb rfl) (je_lst (jl_cons (je_ret (e := eE nI) rfl) fun d_1 => (jl_nil (je_lstE (enc := (eL nI)) (leb rfl) rfl))))) fun found_2 =>
 (js_seq (js_for (Γs := (fun s_5 : (List Nat) => [.val (nI ways_0), .own ((eL nI) s_5), .no, .no])) (s0 := (found_2 : (List Nat))) (je_rg1 (je_fz (jx_un ou_bits (je_pk rfl)))) (.s (.s (.s (.s .nil)))) (fun s_5 x_6 => (tg_name (ltb rfl))) (fun s_5 x_6 =>
 (js_if (je_bol (je_b2 ob_eq (je_b2 ob_and (je_b2 ob_shr (je_nm rfl) (je_nm rfl)) (je_ret (e := eE nI) rfl)) (je_ret (e := eE nI) rfl)))
 (js_last (js_wk (Γ' := [.val (nI ways_0), .val ((eL nI) s_5), .val (nI x_6), .no]) (.s (.o (.s (.s .nil)))) ((js_asgO (ltb rfl) (jx_b2 ox_cat (je_nm rfl) (je_fz (jx_lc (noat_cons rfl noat_nil) (je_seqW (eL_seq _) (je_nm rfl)) (fun x_14 => (tg_name (ltb rfl))) (fun x_14 => (.s (.s (.s (.n .nil))))) (fun x_14 => je_true) (fun x_14 => (je_b2 ob_or (je_nm rfl) (je_b2 ob_shl1 (je_con rfl rfl) (je_nm rfl)))))))))) fun found_25 =>
 (js_nxB (s := found_25) (.s (.s (.n (.s .nil))))))
 (js_nxB (s := s_5) (.s (.s (.n (.s .nil)))))))) fun s_5 =>
 (js_retO rfl)))
theorem r_face_corners (face_0 : (Nat × Nat)) : JC oM f_face_corners [(eP nI nI) face_0] (t_face_corners face_0) (some false) (eT nI) := by
 rw [← tq_face_corners]
 refine jc_fn rfl ?_
 unfold q_face_corners b_face_corners
 exact (js_ret (je_fr (je_fz (jx_un ou_tup (je_fz (jx_lc (noat_cons rfl noat_nil) (je_seqW (eL_seq _) (je_fz (jx_call (jl_cons (je_ixn (show OpB ixD (eP nI nI) (fun _ : Unit => .int 0) nI (fun p _ => some p.1) from fun p _ z h => by cases h; rfl) rfl (je_con rfl rfl)) fun a_2 => (jl_nil (jl_nil (jx_end (r_subsets_of a_2) ⟨rfl, rfl⟩ rfl))))))) (fun x_3 => (tg_name (ltb rfl))) (fun x_3 => (.s (.n .nil))) (fun x_3 => je_true) (fun x_3 => (je_b2 ob_or (je_ixn (show OpB ixD (eP nI nI) (fun _ : Unit => .int 1) nI (fun p _ => some p.2) from fun p _ z h => by cases h; rfl) rfl (je_con rfl rfl)) (je_nm rfl)))))))))
theorem r_corner_named (cube_0 : (List Nat)) (face_0 : (Nat × Nat)) (ways_0 : Nat) : JC oM f_corner_named [(eT nI) cube_0, (eP nI nI) face_0, nI ways_0] (t_corner_named cube_0 face_0 ways_0) (some false) nI := by
 rw [← tq_corner_named]
 refine jc_fn rfl ?_
 unfold q_corner_named b_corner_named
 exact (js_ifx (je_bol (je_b2 ob_ne (je_andNot (je_nm rfl) (je_ixn (show OpB ixD (eP nI nI) (fun _ : Unit => .int 0) nI (fun p _ => some p.1) from fun p _ z h => by cases h; rfl) rfl (je_con rfl rfl))) (je_ret (e := eE nI) rfl)))
 js_never rt_nnx
 (js_ret (je_fr (je_b2 ob_ixL (je_fz (jx_lc (noat_cons rfl noat_nil) (je_seqW (eT_seq _) (je_fz (jx_call (jl_cons (je_nm rfl) fun a_7 => (jl_nil (jl_nil (jx_end (r_face_corners a_7) ⟨rfl, rfl⟩ rfl))))))) (fun x_8 => (tg_name (ltb rfl))) (fun x_8 => (.s (.s (.s (.n .nil))))) (fun x_8 => (je_bol (je_b2 ob_eq (je_b2 ob_and (je_ixn ob_ixT rfl (je_nm rfl)) (je_ixn (show OpB ixD (eP nI nI) (fun _ : Unit => .int 0) nI (fun p _ => some p.1) from fun p _ z h => by cases h; rfl) rfl (je_con rfl rfl))) (je_nm rfl)))) (fun x_8 => (je_nm rfl)))) (je_ret (e := eE nI) rfl)))))
theorem r_low_of (cube_0 : (List Nat)) (face_0 : (Nat × Nat)) : JC oM f_low_of [(eT nI) cube_0, (eP nI nI) face_0] (t_low_of cube_0 face_0) (some false) nI := by
 rw [← tq_low_of]
 refine jc_fn rfl ?_
 unfold q_low_of b_low_of
 exact (js_ret (jx_call (jl_cons (je_nm rfl) fun a_1 => (jl_cons (je_nm rfl) fun a_2 => (jl_cons (je_ret (e := eE nI) rfl) fun a_3 => (jl_nil (jl_nil (jx_end (r_corner_named a_1 a_2 a_3) ⟨rfl, rfl⟩ rfl))))))))
theorem r_high_of (cube_0 : (List Nat)) (face_0 : (Nat × Nat)) : JC oM f_high_of [(eT nI) cube_0, (eP nI nI) face_0] (t_high_of cube_0 face_0) (some false) nI := by
 rw [← tq_high_of]
 refine jc_fn rfl ?_
 unfold q_high_of b_high_of
 exact (js_ret (jx_call (jl_cons (je_nm rfl) fun a_2 => (jl_cons (je_nm rfl) fun a_3 => (jl_cons (je_ixn (show OpB ixD (eP nI nI) (fun _ : Unit => .int 0) nI (fun p _ => some p.1) from fun p _ z h => by cases h; rfl) rfl (je_con rfl rfl)) fun a_4 => (jl_nil (jl_nil (jx_end (r_corner_named a_2 a_3 a_4) ⟨rfl, rfl⟩ rfl))))))))
theorem r_bits_number (ways_0 : Nat) : JC oM f_bits_number [nI ways_0] (t_bits_number ways_0) none nI := by
 rw [← tq_bits_number]
 refine jc_fn rfl ?_
 unfold q_bits_number b_bits_number
 exact (js_seq (js_asgF (ltb rfl) (je_fr (je_ret (e := eE nI) rfl))) fun found_1 =>
 (js_seq (js_while (Γs := (fun s_2 : (Nat × Nat) => [.val (nI s_2.2), .val (nI s_2.1)])) (s0 := ((found_1, ways_0) : (Nat × Nat))) (.s (.s .nil)) (fun s_2 => (je_bol (je_b2 ob_gt (je_nm rfl) (je_ret (e := eE nI) rfl)))) (fun s_2 =>
 (js_unseq (jp_par (jp_start (jp_cons (jx_b2 ox_add (je_nm rfl) (je_b2 ob_and (je_nm rfl) (je_ret (e := eE nI) rfl))) fun found_11 => (jp_cons (je_fr (je_b2 ob_shr (je_nm rfl) (je_ret (e := eE nI) rfl))) fun ways_12 => (jp_nil rfl (fun i h => by simp at h; rcases h with rfl | rfl <;> exact ltb rfl) (js_nxB (s := (found_11, ways_12)) (.s (.s .nil))))))))))) fun s_2 =>
 (js_retN rfl)))
theorem r_leaving_counts (cube_0 : (List Nat)) (face_0 : (Nat × Nat)) : JC oM f_leaving_counts [(eT nI) cube_0, (eP nI nI) face_0] (t_leaving_counts cube_0 face_0) (some false) (eT nI) := by
 rw [← tq_leaving_counts]
 refine jc_fn rfl ?_
 unfold q_leaving_counts b_leaving_counts
 exact (js_seq (js_asgO (ltb rfl) (jx_b2 ox_rep (je_fz (je_lst (jl_cons (je_ret (e := eE nI) rfl) fun d_1 => (jl_nil (je_lstE (enc := (eL nI)) (leb rfl) rfl))))) (je_fz (jx_b2 ox_add (je_fz (jx_call (jl_cons (je_ixn (show OpB ixD (eP nI nI) (fun _ : Unit => .int 0) nI (fun p _ => some p.1) from fun p _ z h => by cases h; rfl) rfl (je_con rfl rfl)) fun a_3 => (jl_nil (jl_nil (jx_end (r_bits_number a_3) ⟨rfl, rfl⟩ rfl)))))) (je_ret (e := eE nI) rfl))))) fun found_10 =>
 (js_seq (js_for (Γs := (fun s_12 : (List Nat) => [.val ((eT nI) cube_0), .val ((eP nI nI) face_0), .own ((eL nI) s_12), .no, .no])) (s0 := (found_10 : (List Nat))) (je_seqW (eT_seq _) (je_fz (jx_call (jl_cons (je_nm rfl) fun a_11 => (jl_nil (jl_nil (jx_end (r_face_corners a_11) ⟨rfl, rfl⟩ rfl))))))) (.s (.s (.s (.s (.s .nil))))) (fun s_12 x_13 => (tg_name (ltb rfl))) (fun s_12 x_13 =>
 (js_seq (js_asgF (ltb rfl) (jx_call (jl_cons (je_b2 ob_and (je_ixn ob_ixT rfl (je_nm rfl)) (je_ixn (show OpB ixD (eP nI nI) (fun _ : Unit => .int 0) nI (fun p _ => some p.1) from fun p _ z h => by cases h; rfl) rfl (je_con rfl rfl))) fun a_19 => (jl_nil (jl_nil (jx_end (r_bits_number a_19) ⟨rfl, rfl⟩ rfl)))))) fun many_21 =>
 (js_last (js_setI rfl (je_fz (jx_b2 ox_add (je_ixn ob_ixL rfl (je_nm rfl)) (je_ret (e := eE nI) rfl))) (je_nm rfl)) fun found_26 =>
 (js_nxB (s := found_26) (.s (.s (.s (.n (.n .nil)))))))))) fun s_12 =>
 (js_ret (je_fr (je_fz (jx_un ou_tup (je_pk rfl)))))))
theorem r_low_corners (arrows_0 : (List Nat)) (face_0 : (Nat × Nat)) : JC oM f_low_corners [(eT nI) arrows_0, (eP nI nI) face_0] (t_low_corners arrows_0 face_0) (some false) (eT nI) := by
 rw [← tq_low_corners]
 refine jc_fn rfl ?_
 unfold q_low_corners b_low_corners
 exact (js_ret (je_fr (je_fz (jx_un ou_tup (je_fz (jx_lc (noat_cons rfl noat_nil) (je_seqW (eT_seq _) (je_fz (jx_call (jl_cons (je_nm rfl) fun a_1 => (jl_nil (jl_nil (jx_end (r_face_corners a_1) ⟨rfl, rfl⟩ rfl))))))) (fun x_2 => (tg_name (ltb rfl))) (fun x_2 => (.s (.s (.n .nil)))) (fun x_2 => (je_bol (je_b2 ob_eq (je_b2 ob_and (je_ixn ob_ixT rfl (je_nm rfl)) (je_ixn (show OpB ixD (eP nI nI) (fun _ : Unit => .int 0) nI (fun p _ => some p.1) from fun p _ z h => by cases h; rfl) rfl (je_con rfl rfl))) (je_ret (e := eE nI) rfl)))) (fun x_2 => (je_nm rfl))))))))
theorem r_high_corners (arrows_0 : (List Nat)) (face_0 : (Nat × Nat)) : JC oM f_high_corners [(eT nI) arrows_0, (eP nI nI) face_0] (t_high_corners arrows_0 face_0) (some false) (eT nI) := by
 rw [← tq_high_corners]
 refine jc_fn rfl ?_
 unfold q_high_corners b_high_corners
 exact (js_ret (je_fr (je_fz (jx_un ou_tup (je_fz (jx_lc (noat_cons rfl noat_nil) (je_seqW (eT_seq _) (je_fz (jx_call (jl_cons (je_nm rfl) fun a_1 => (jl_nil (jl_nil (jx_end (r_face_corners a_1) ⟨rfl, rfl⟩ rfl))))))) (fun x_2 => (tg_name (ltb rfl))) (fun x_2 => (.s (.s (.n .nil)))) (fun x_2 => (je_bol (je_b2 ob_eq (je_b2 ob_and (je_ixn ob_ixT rfl (je_nm rfl)) (je_ixn (show OpB ixD (eP nI nI) (fun _ : Unit => .int 0) nI (fun p _ => some p.1) from fun p _ z h => by cases h; rfl) rfl (je_con rfl rfl))) (je_ixn (show OpB ixD (eP nI nI) (fun _ : Unit => .int 0) nI (fun p _ => some p.1) from fun p _ z h => by cases h; rfl) rfl (je_con rfl rfl))))) (fun x_2 => (je_nm rfl))))))))
theorem r__law_same (told_0 : (Nat × (Nat × ((List Nat) × ((List Nat) × (List Nat)))))) (due_0 : (Nat × (Nat × ((List Nat) × ((List Nat) × (List Nat)))))) : JC oM f__law_same [(eQ5 nI nI (eT nI) (eT nI) (eT nI)) told_0, (eQ5 nI nI (eT nI) (eT nI) (eT nI)) due_0] (t__law_same told_0 due_0) (some false) PyData.bool := by
 rw [← tq__law_same]
 refine jc_fn rfl ?_
 unfold q__law_same b__law_same
 exact (js_ret (je_fr (je_andV (je_b2 ob_eqs (je_fz (jx_un ou_repr (je_pk rfl))) (je_fz (jx_un ou_repr (je_pk rfl)))) (je_b2 (ob_eqF (fa_eQ5 fa_nat fa_nat (fa_T fa_nat) (fa_T fa_nat) (fa_T fa_nat)) (leb rfl) (fun _ _ h => by cases h)) (je_nm rfl) (je_nm rfl)))))
theorem r__law_is_face_right (cube_0 : (List Nat)) (face_0 : (Nat × Nat)) (turn_0 : Nat) : JC oM f__law_is_face_right [(eT nI) cube_0, (eP nI nI) face_0, nI turn_0] (t__law_is_face_right cube_0 face_0 turn_0) (some false) PyData.bool := by
 rw [← tq__law_is_face_right]
 refine jc_fn rfl ?_
 unfold q__law_is_face_right b__law_is_face_right
 exact (jp_par (jp_start (jp_cons (je_fr (je_b2 ob_ixT (je_fz (jx_call (jl_cons (je_nm rfl) fun a_1 => (jl_cons (je_nm rfl) fun a_2 => (jl_nil (jl_nil (jx_end (r__law_lows a_1 a_2) ⟨rfl, rfl⟩ rfl))))))) (je_ret (e := eE nI) rfl))) fun low_11 => (jp_cons (je_fr (je_b2 ob_ixT (je_fz (jx_call (jl_cons (je_nm rfl) fun a_6 => (jl_cons (je_nm rfl) fun a_7 => (jl_nil (jl_nil (jx_end (r__law_highs a_6 a_7) ⟨rfl, rfl⟩ rfl))))))) (je_ret (e := eE nI) rfl))) fun high_12 => (jp_nil rfl (fun i h => by simp at h; rcases h with rfl | rfl <;> exact ltb rfl) (js_seq (js_asgO (ltb rfl) (je_lst (jl_cons (je_nm rfl) fun d_19 => (jl_cons (je_nm rfl) fun d_20 => (jl_cons (je_fz (jx_call (jl_cons (je_fz (jx_call (jl_cons (je_ixn (show OpB ixD (eP nI nI) (fun _ : Unit => .int 0) nI (fun p _ => some p.1) from fun p _ z h => by cases h; rfl) rfl (je_con rfl rfl)) fun a_14 => (jl_nil (jl_nil (jx_end (r__law_many a_14) ⟨rfl, rfl⟩ rfl)))))) fun a_15 => (jl_nil (jl_nil (jx_end (r__law_binomials a_15) ⟨rfl, rfl⟩ rfl)))))) fun d_21 => (jl_cons (je_tup (jl_cons (je_nm rfl) fun d_17 => (jl_nil (je_tupE (enc := (eT nI)) (leb rfl) rfl)))) fun d_22 => (jl_cons (je_tup (jl_cons (je_nm rfl) fun d_18 => (jl_nil (je_tupE (enc := (eT nI)) (leb rfl) rfl)))) fun d_23 => (jl_nil (je_lstE (enc := (eQ5 nI nI (eT nI) (eT nI) (eT nI))) (leb rfl) rfl))))))))) fun due_25 =>
 (js_seq (Γf := fun s_29 : (Nat × (Nat × ((List Nat) × ((List Nat) × (List Nat))))) => [.val ((eT nI) cube_0), .val ((eP nI nI) face_0), .val (nI turn_0), .val (nI low_11), .val (nI high_12), .own ((eQ5 nI nI (eT nI) (eT nI) (eT nI)) due_25), .own ((eQ5 nI nI (eT nI) (eT nI) (eT nI)) s_29)]) (js_if (je_bol (je_b2 ob_eq (je_nm rfl) (je_ret (e := eE nI) rfl)))
 (js_seq (js_asgO (ltb rfl) (je_lst (jl_cons (je_fz (jx_call (jl_cons (je_nm rfl) fun a_30 => (jl_cons (je_nm rfl) fun a_31 => (jl_nil (jl_nil (jx_end (r_low_of a_30 a_31) ⟨rfl, rfl⟩ rfl))))))) fun d_36 => (jl_cons (je_fz (jx_call (jl_cons (je_nm rfl) fun a_32 => (jl_cons (je_nm rfl) fun a_33 => (jl_nil (jl_nil (jx_end (r_high_of a_32 a_33) ⟨rfl, rfl⟩ rfl))))))) fun d_37 => (jl_cons (je_fz (jx_call (jl_cons (je_nm rfl) fun a_34 => (jl_cons (je_nm rfl) fun a_35 => (jl_nil (jl_nil (jx_end (r_leaving_counts a_34 a_35) ⟨rfl, rfl⟩ rfl))))))) fun d_38 => (jl_nil (je_lstE (enc := (eQ3 nI nI (eT nI))) (leb rfl) rfl))))))) fun told_42 =>
 (js_last (js_wk (Γ' := [.val ((eT nI) cube_0), .val ((eP nI nI) face_0), .val (nI turn_0), .val (nI low_11), .val (nI high_12), .own ((eQ5 nI nI (eT nI) (eT nI) (eT nI)) due_25), .val ((eQ3 nI nI (eT nI)) told_42)]) (.s (.s (.s (.s (.s (.s (.o .nil))))))) ((js_asgO (ltb rfl) (jx_b2 (show OpX addX (eQ3 nI nI (eT nI)) (eQ (eT nI) (eT nI)) (some true) (eQ5 nI nI (eT nI) (eT nI) (eT nI)) (fun x y => some (x.1, x.2.1, x.2.2, y.1, y.2)) from fun x y z h => by cases h; exact ⟨_, rfl, rfl, fun q e => by cases e; rfl⟩) (je_nm rfl) (je_fz (je_lst (jl_cons (je_fz (jx_call (jl_cons (je_nm rfl) fun a_43 => (jl_cons (je_nm rfl) fun a_44 => (jl_nil (jl_nil (jx_end (r_low_corners a_43 a_44) ⟨rfl, rfl⟩ rfl))))))) fun d_47 => (jl_cons (je_fz (jx_call (jl_cons (je_nm rfl) fun a_45 => (jl_cons (je_nm rfl) fun a_46 => (jl_nil (jl_nil (jx_end (r_high_corners a_45 a_46) ⟨rfl, rfl⟩ rfl))))))) fun d_48 => (jl_nil (je_lstE (enc := (eQ (eT nI) (eT nI))) (leb rfl) rfl)))))))))) fun told_54 =>
 (js_nx (s := told_54) (.s (.s (.s (.s (.s (.s (.s .nil))))))))))
 (js_seq (js_asgO (ltb rfl) (je_lst (jl_cons (je_fz (jx_call (jl_nil (jl_cons (je_nm rfl) fun a_55 => (jl_cons (je_nm rfl) fun a_56 => (jl_nil (jx_end (r_low_of a_55 a_56) ⟨rfl, rfl⟩ rfl))))))) fun d_61 => (jl_cons (je_fz (jx_call (jl_nil (jl_cons (je_nm rfl) fun a_57 => (jl_cons (je_nm rfl) fun a_58 => (jl_nil (jx_end (r_high_of a_58 a_57) ⟨rfl, rfl⟩ rfl))))))) fun d_62 => (jl_cons (je_fz (jx_call (jl_nil (jl_cons (je_nm rfl) fun a_59 => (jl_cons (je_nm rfl) fun a_60 => (jl_nil (jx_end (r_leaving_counts a_59 a_60) ⟨rfl, rfl⟩ rfl))))))) fun d_63 => (jl_nil (je_lstE (enc := (eQ3 nI nI (eT nI))) (leb rfl) rfl))))))) fun told_67 =>
 (js_last (js_wk (Γ' := [.val ((eT nI) cube_0), .val ((eP nI nI) face_0), .val (nI turn_0), .val (nI low_11), .val (nI high_12), .own ((eQ5 nI nI (eT nI) (eT nI) (eT nI)) due_25), .val ((eQ3 nI nI (eT nI)) told_67)]) (.s (.s (.s (.s (.s (.s (.o .nil))))))) ((js_asgO (ltb rfl) (jx_b2 (show OpX addX (eQ3 nI nI (eT nI)) (eQ (eT nI) (eT nI)) (some true) (eQ5 nI nI (eT nI) (eT nI) (eT nI)) (fun x y => some (x.1, x.2.1, x.2.2, y.1, y.2)) from fun x y z h => by cases h; exact ⟨_, rfl, rfl, fun q e => by cases e; rfl⟩) (je_nm rfl) (je_fz (je_lst (jl_cons (je_fz (jx_call (jl_nil (jl_cons (je_nm rfl) fun a_68 => (jl_cons (je_nm rfl) fun a_69 => (jl_nil (jx_end (r_low_corners a_68 a_69) ⟨rfl, rfl⟩ rfl))))))) fun d_72 => (jl_cons (je_fz (jx_call (jl_nil (jl_cons (je_nm rfl) fun a_70 => (jl_cons (je_nm rfl) fun a_71 => (jl_nil (jx_end (r_high_corners a_71 a_70) ⟨rfl, rfl⟩ rfl))))))) fun d_73 => (jl_nil (je_lstE (enc := (eQ (eT nI) (eT nI))) (leb rfl) rfl)))))))))) fun told_79 =>
 (js_nx (s := told_79) (.s (.s (.s (.s (.s (.s (.s .nil))))))))))) fun s_29 =>
 (js_wk (Γ' := [.val ((eT nI) cube_0), .val ((eP nI nI) face_0), .val (nI turn_0), .val (nI low_11), .val (nI high_12), .val ((eQ5 nI nI (eT nI) (eT nI) (eT nI)) due_25), .val ((eQ5 nI nI (eT nI) (eT nI) (eT nI)) s_29)]) (.s (.s (.s (.s (.s (.o (.o .nil))))))) ((js_ret (jx_call (jl_cons (je_nm rfl) fun a_80 => (jl_cons (je_nm rfl) fun a_81 => (jl_nil (jl_nil (jx_end (r__law_same a_80 a_81) ⟨rfl, rfl⟩ rfl))))))))))))))))
theorem r__law_same_i2 (told_0 : (List Nat)) (due_0 : (List Nat)) : JC oM f__law_same [(eL nI) told_0, (eL nI) due_0] (t__law_same_i2 told_0 due_0) (some false) PyData.bool := by
 rw [← tq__law_same_i2]
 refine jc_fn rfl ?_
 unfold q__law_same_i2 b__law_same
 exact (js_ret (je_fr (je_andV (je_b2 ob_eqs (je_fz (jx_un ou_repr (je_pk rfl))) (je_fz (jx_un ou_repr (je_pk rfl)))) (je_b2 (ob_eqF (fa_L fa_nat) (leb rfl) (fun _ _ h => by cases h)) (je_nm rfl) (je_nm rfl)))))
theorem r__law_is_named_right (cube_0 : (List Nat)) (face_0 : (Nat × Nat)) (turn_0 : Nat) : JC oM f__law_is_named_right [(eT nI) cube_0, (eP nI nI) face_0, nI turn_0] (t__law_is_named_right cube_0 face_0 turn_0) (some false) PyData.bool := by
 rw [← tq__law_is_named_right]
 refine jc_fn rfl ?_
 unfold q__law_is_named_right b__law_is_named_right
 exact (js_seq (js_asgO (ltb rfl) (je_lst (jl_cons (je_b2 ob_ixT (je_fz (jx_call (jl_cons (je_nm rfl) fun a_1 => (jl_cons (je_nm rfl) fun a_2 => (jl_nil (jl_nil (jx_end (r__law_lows a_1 a_2) ⟨rfl, rfl⟩ rfl))))))) (je_ret (e := eE nI) rfl)) fun d_11 => (jl_cons (je_b2 ob_ixT (je_fz (jx_call (jl_cons (je_nm rfl) fun a_6 => (jl_cons (je_nm rfl) fun a_7 => (jl_nil (jl_nil (jx_end (r__law_highs a_6 a_7) ⟨rfl, rfl⟩ rfl))))))) (je_ret (e := eE nI) rfl)) fun d_12 => (jl_nil (je_lstE (enc := (eL nI)) (leb rfl) rfl)))))) fun due_15 =>
 (js_seq (Γf := fun s_19 : (List Nat) => [.val ((eT nI) cube_0), .val ((eP nI nI) face_0), .val (nI turn_0), .own ((eL nI) due_15), .own ((eL nI) s_19)]) (js_if (je_bol (je_b2 ob_eq (je_nm rfl) (je_ret (e := eE nI) rfl)))
 (js_last (js_asgO (ltb rfl) (je_lst (jl_cons (je_fz (jx_call (jl_cons (je_nm rfl) fun a_20 => (jl_cons (je_nm rfl) fun a_21 => (jl_cons (je_ret (e := eE nI) rfl) fun a_22 => (jl_nil (jl_nil (jx_end (r_corner_named a_20 a_21 a_22) ⟨rfl, rfl⟩ rfl)))))))) fun d_27 => (jl_cons (je_fz (jx_call (jl_cons (je_nm rfl) fun a_24 => (jl_cons (je_nm rfl) fun a_25 => (jl_cons (je_ixn (show OpB ixD (eP nI nI) (fun _ : Unit => .int 0) nI (fun p _ => some p.1) from fun p _ z h => by cases h; rfl) rfl (je_con rfl rfl)) fun a_26 => (jl_nil (jl_nil (jx_end (r_corner_named a_24 a_25 a_26) ⟨rfl, rfl⟩ rfl)))))))) fun d_28 => (jl_nil (je_lstE (enc := (eL nI)) (leb rfl) rfl)))))) fun told_31 =>
 (js_nx (s := told_31) (.s (.s (.s (.s (.s .nil)))))))
 (js_last (js_asgO (ltb rfl) (je_lst (jl_cons (je_fz (jx_call (jl_nil (jl_cons (je_nm rfl) fun a_32 => (jl_cons (je_nm rfl) fun a_33 => (jl_cons (je_ret (e := eE nI) rfl) fun a_34 => (jl_nil (jx_end (r_corner_named a_32 a_33 a_34) ⟨rfl, rfl⟩ rfl)))))))) fun d_39 => (jl_cons (je_fz (jx_call (jl_nil (jl_cons (je_nm rfl) fun a_36 => (jl_cons (je_ixn (show OpB ixD (eP nI nI) (fun _ : Unit => .int 0) nI (fun p _ => some p.1) from fun p _ z h => by cases h; rfl) rfl (je_con rfl rfl)) fun a_37 => (jl_cons (je_nm rfl) fun a_38 => (jl_nil (jx_end (r_corner_named a_38 a_36 a_37) ⟨rfl, rfl⟩ rfl)))))))) fun d_40 => (jl_nil (je_lstE (enc := (eL nI)) (leb rfl) rfl)))))) fun told_43 =>
 (js_nx (s := told_43) (.s (.s (.s (.s (.s .nil)))))))) fun s_19 =>
 (js_wk (Γ' := [.val ((eT nI) cube_0), .val ((eP nI nI) face_0), .val (nI turn_0), .val ((eL nI) due_15), .val ((eL nI) s_19)]) (.s (.s (.s (.o (.o .nil))))) ((js_ret (jx_call (jl_cons (je_nm rfl) fun a_44 => (jl_cons (je_nm rfl) fun a_45 => (jl_nil (jl_nil (jx_end (r__law_same_i2 a_44 a_45) ⟨rfl, rfl⟩ rfl)))))))))))
theorem r__law_same_i3 (told_0 : (List (List Nat))) (due_0 : (List (List Nat))) : JC oM f__law_same [(eL (eT nI)) told_0, (eL (eT nI)) due_0] (t__law_same_i3 told_0 due_0) (some false) PyData.bool := by
 rw [← tq__law_same_i3]
 refine jc_fn rfl ?_
 unfold q__law_same_i3 b__law_same
 exact (js_ret (je_fr (je_andV (je_b2 ob_eqs (je_fz (jx_un ou_repr (je_pk rfl))) (je_fz (jx_un ou_repr (je_pk rfl)))) (je_b2 (ob_eqF (fa_L (fa_T fa_nat)) (leb rfl) (fun _ _ h => by cases h)) (je_nm rfl) (je_nm rfl)))))
theorem r__law_pick_i2 (some_0 : (List Nat)) : JC wM f__law_pick [eBag (), (eL nI) some_0] (t__law_pick_i2 some_0) (some false) nI := by
 rw [← tq__law_pick_i2]
 refine jc_fn rfl ?_
 unfold q__law_pick_i2 b__law_pick
 exact (js_ret (je_fr (je_ixn ob_ixL rfl (je_fz (jx_call (jl_cons (je_nm rfl) fun a_2 => (jl_cons (je_fz (jx_un ou_len (je_pk rfl))) fun a_3 => (jl_nil (jl_nil (jx_end (r__law_draw a_3) ⟨rfl, rfl⟩ rfl))))))))))
theorem r__law_same_i4 (told_0 : Nat) (due_0 : Nat) : JC oM f__law_same [nI told_0, nI due_0] (t__law_same_i4 told_0 due_0) (some false) PyData.bool := by
 rw [← tq__law_same_i4]
 refine jc_fn rfl ?_
 unfold q__law_same_i4 b__law_same
 exact (js_ret (je_fr (je_andV (je_b2 ob_eqs (je_fz (jx_un ou_repr (je_pk rfl))) (je_fz (jx_un ou_repr (je_pk rfl)))) (je_b2 ob_eq (je_nm rfl) (je_nm rfl)))))
theorem r__law_is_within_right (cube_0 : (List Nat)) (n_0 : Nat) : JC wM f__law_is_within_right [eBag (), (eT nI) cube_0, nI n_0] (t__law_is_within_right cube_0 n_0) (some false) PyData.bool := by
 rw [← tq__law_is_within_right]
 refine jc_fn rfl ?_
 unfold q__law_is_within_right b__law_is_within_right
 exact (js_seq (js_asgF (ltb rfl) (je_fr (je_b2 ob_sub (je_b2 ob_shl1 (je_con rfl rfl) (je_nm rfl)) (je_ret (e := eE nI) rfl)))) fun full_6 =>
 (js_seq (js_asgF (ltb rfl) (je_ite (je_bol (je_b2 ob_eq (je_fz (jx_call (jl_cons (je_nm rfl) fun a_7 => (jl_cons (je_ret (e := eE nI) rfl) fun a_8 => (jl_nil (jl_nil (jx_end (r__law_draw a_8) ⟨rfl, rfl⟩ rfl))))))) (je_ret (e := eE nI) rfl))) (je_fr (je_nm rfl)) (jx_call (jl_cons (je_nm rfl) fun a_14 => (jl_cons (je_b2 ob_shl1 (je_con rfl rfl) (je_nm rfl)) fun a_15 => (jl_nil (jl_nil (jx_end (r__law_draw a_15) ⟨rfl, rfl⟩ rfl)))))))) fun free_19 =>
 (js_seq (js_asgF (ltb rfl) (je_fr (je_tup (jl_cons (je_nm rfl) fun d_31 => (jl_cons (je_b2 ob_and (je_fz (jx_call (jl_cons (je_nm rfl) fun a_22 => (jl_cons (je_b2 ob_shl1 (je_con rfl rfl) (je_nm rfl)) fun a_23 => (jl_nil (jl_nil (jx_end (r__law_draw a_23) ⟨rfl, rfl⟩ rfl))))))) (je_b2 ob_sub (je_nm rfl) (je_nm rfl))) fun d_32 => (jl_nil (je_tupE (enc := (eP nI nI)) (leb rfl) rfl))))))) fun outer_34 =>
 (jp_par (jp_start (jp_cons (je_fr (je_b2 ob_ixT (je_fz (jx_call (jl_cons (je_nm rfl) fun a_35 => (jl_cons (je_nm rfl) fun a_36 => (jl_nil (jl_nil (jx_end (JC.up (r__law_lows a_35 a_36)) ⟨rfl, rfl⟩ rfl))))))) (je_ret (e := eE nI) rfl))) fun low_45 => (jp_cons (je_fr (je_b2 ob_ixT (je_fz (jx_call (jl_cons (je_nm rfl) fun a_40 => (jl_cons (je_nm rfl) fun a_41 => (jl_nil (jl_nil (jx_end (JC.up (r__law_highs a_40 a_41)) ⟨rfl, rfl⟩ rfl))))))) (je_ret (e := eE nI) rfl))) fun high_46 => (jp_nil rfl (fun i h => by simp at h; rcases h with rfl | rfl <;> exact ltb rfl) (js_ifx (je_not (je_tru tr_bool (je_fz (jx_call (jl_cons (je_fz (je_lst (jl_cons (je_fz (jx_call (jl_cons (je_nm rfl) fun a_47 => (jl_cons (je_nm rfl) fun a_48 => (jl_nil (jl_nil (jx_end (JC.up (r_low_of a_47 a_48)) ⟨rfl, rfl⟩ rfl))))))) fun d_51 => (jl_cons (je_fz (jx_call (jl_cons (je_nm rfl) fun a_49 => (jl_cons (je_nm rfl) fun a_50 => (jl_nil (jl_nil (jx_end (JC.up (r_high_of a_49 a_50)) ⟨rfl, rfl⟩ rfl))))))) fun d_52 => (jl_nil (je_lstE (enc := (eL nI)) (leb rfl) rfl)))))) fun a_57 => (jl_cons (je_fz (je_lst (jl_cons (je_nm rfl) fun d_55 => (jl_cons (je_nm rfl) fun d_56 => (jl_nil (je_lstE (enc := (eL nI)) (leb rfl) rfl)))))) fun a_58 => (jl_nil (jl_nil (jx_end (JC.up (r__law_same_i2 a_57 a_58)) ⟨rfl, rfl⟩ rfl)))))))))
 (js_ret (je_fr (je_ret (e := eE PyData.bool) rfl))) rt_nnx
 (js_seqR (js_forR (Γs := (fun s_75 : Unit => [.val (eBag ()), .val ((eT nI) cube_0), .val (nI n_0), .val (nI full_6), .val (nI free_19), .val ((eP nI nI) outer_34), .val (nI low_45), .val (nI high_46), .no, .no, .no, .no, .no, .no])) (s0 := (() : Unit)) (je_enum2 (enc := nI) (.inl fun _ => rfl) (je_fz (je_lst (jl_cons (je_nm rfl) fun d_69 => (jl_cons (je_nm rfl) fun d_70 => (jl_cons (je_fz (jx_call (jl_cons (je_nm rfl) fun a_66 => (jl_cons (je_fz (jx_call (jl_cons (je_nm rfl) fun a_65 => (jl_nil (jl_nil (jx_end (JC.up (r__law_corners a_65)) ⟨rfl, rfl⟩ rfl)))))) fun a_67 => (jl_nil (jl_nil (jx_end (r__law_pick_i2 a_67) ⟨rfl, rfl⟩ rfl))))))) fun d_71 => (jl_nil (je_lstE (enc := (eL nI)) (leb rfl) rfl)))))))) (.s (.s (.s (.s (.s (.s (.s (.s (.s (.s (.s (.s (.s (.s .nil)))))))))))))) (fun s_75 x_76 => (tg_tup (ds := [nI x_76.1, nI x_76.2]) (.inl rfl) rfl (tgs_cons (tg_name (ltb rfl)) (tgs_cons (tg_name (ltb rfl)) tgs_nil)))) (fun s_75 x_76 =>
 (js_seq (js_asgF (ltb rfl) (je_fr (je_nm rfl))) fun inner_77 =>
 (js_unseq (js_seqRM (js_forR (Γs := (fun s_79 : (Nat × Nat) => [.val (eBag ()), .val ((eT nI) cube_0), .val (nI n_0), .val (nI full_6), .val (nI free_19), .val ((eP nI nI) outer_34), .val (nI low_45), .val (nI high_46), .val (nI x_76.1), .val (nI x_76.2), .val ((eP nI nI) s_79), .no, .no, .no])) (s0 := (inner_77 : (Nat × Nat))) (je_rg1 (je_ret (e := eE nI) rfl)) (.s (.s (.s (.s (.s (.s (.s (.s (.s (.s (.s (.s (.s (.s .nil)))))))))))))) (fun s_79 x_80 => (tg_name (ltb rfl))) (fun s_79 x_80 =>
 (js_seq (js_asgF (ltb rfl) (je_fr (je_b2 ob_and (je_ixn (show OpB ixD (eP nI nI) (fun _ : Unit => .int 0) nI (fun p _ => some p.1) from fun p _ z h => by cases h; rfl) rfl (je_con rfl rfl)) (je_b2 ob_or (je_fz (jx_call (jl_cons (je_nm rfl) fun a_84 => (jl_cons (je_b2 ob_shl1 (je_con rfl rfl) (je_nm rfl)) fun a_85 => (jl_nil (jl_nil (jx_end (r__law_draw a_85) ⟨rfl, rfl⟩ rfl))))))) (je_fz (jx_call (jl_cons (je_nm rfl) fun a_89 => (jl_cons (je_b2 ob_shl1 (je_con rfl rfl) (je_nm rfl)) fun a_90 => (jl_nil (jl_nil (jx_end (r__law_draw a_90) ⟨rfl, rfl⟩ rfl))))))))))) fun some_99 =>
 (js_seq (js_asgF (ltb rfl) (je_fr (je_tup (jl_cons (je_nm rfl) fun d_105 => (jl_cons (je_b2 ob_and (je_nm rfl) (je_b2 ob_sub (je_nm rfl) (je_nm rfl))) fun d_106 => (jl_nil (je_tupE (enc := (eP nI nI)) (leb rfl) rfl))))))) fun inner_108 =>
 (js_seq (js_asgO (ltb rfl) (je_lst (jl_cons (je_fz (jx_call (jl_cons (je_nm rfl) fun a_109 => (jl_cons (je_nm rfl) fun a_110 => (jl_nil (jl_nil (jx_end (JC.up (r_low_of a_109 a_110)) ⟨rfl, rfl⟩ rfl))))))) fun d_113 => (jl_cons (je_fz (jx_call (jl_cons (je_nm rfl) fun a_111 => (jl_cons (je_nm rfl) fun a_112 => (jl_nil (jl_nil (jx_end (JC.up (r_high_of a_111 a_112)) ⟨rfl, rfl⟩ rfl))))))) fun d_114 => (jl_nil (je_lstE (enc := (eL nI)) (leb rfl) rfl)))))) fun ends_117 =>
 (js_ifx (je_and (je_bol (je_b2 ob_lt (je_nm rfl) (je_ret (e := eE nI) rfl))) (je_not (je_tru tr_bool (je_fz (jx_call (jl_cons (je_ixn ob_ixL rfl (je_nm rfl)) fun a_121 => (jl_cons (je_nm rfl) fun a_122 => (jl_nil (jl_nil (jx_end (JC.up (r__law_same_i4 a_121 a_122)) ⟨rfl, rfl⟩ rfl))))))))))
 (js_inl (js_ret (je_fr (je_ret (e := eE PyData.bool) rfl))) rt_MBn) nn_id
 (js_wk (Γ' := [.val (eBag ()), .val ((eT nI) cube_0), .val (nI n_0), .val (nI full_6), .val (nI free_19), .val ((eP nI nI) outer_34), .val (nI low_45), .val (nI high_46), .val (nI x_76.1), .val (nI x_76.2), .val ((eP nI nI) inner_108), .val (nI x_80), .val (nI some_99), .val ((eL nI) ends_117)]) (.s (.s (.s (.s (.s (.s (.s (.s (.s (.s (.s (.s (.s (.o .nil)))))))))))))) ((js_if (je_not (je_tru tr_bool (je_fz (jx_call (jl_cons (je_nm rfl) fun a_145 => (jl_cons (je_fz (je_lst (jl_cons (je_b2 ob_ixT (je_fz (jx_call (jl_cons (je_nm rfl) fun a_131 => (jl_cons (je_nm rfl) fun a_132 => (jl_nil (jl_nil (jx_end (JC.up (r__law_lows a_131 a_132)) ⟨rfl, rfl⟩ rfl))))))) (je_ret (e := eE nI) rfl)) fun d_141 => (jl_cons (je_b2 ob_ixT (je_fz (jx_call (jl_cons (je_nm rfl) fun a_136 => (jl_cons (je_nm rfl) fun a_137 => (jl_nil (jl_nil (jx_end (JC.up (r__law_highs a_136 a_137)) ⟨rfl, rfl⟩ rfl))))))) (je_ret (e := eE nI) rfl)) fun d_142 => (jl_nil (je_lstE (enc := (eL nI)) (leb rfl) rfl)))))) fun a_146 => (jl_nil (jl_nil (jx_end (JC.up (r__law_same_i2 a_145 a_146)) ⟨rfl, rfl⟩ rfl)))))))))
 (js_inl (js_ret (je_fr (je_ret (e := eE PyData.bool) rfl))) rt_MB)
 (js_nxMB (s := inner_108) (.s (.s (.s (.s (.s (.s (.s (.s (.s (.s (.s (.n (.n (.n .nil)))))))))))))))))))))))) rt_MB fun s_79 =>
 (js_nxMB (s := ()) (.s (.s (.s (.s (.s (.s (.s (.s (.n (.n (.n (.s (.s (.s .nil)))))))))))))))))))) fun s_75 =>
 (js_ret (je_fr (je_ret (e := eE PyData.bool) rfl)))))))))))))
theorem r_ways_number (arrows_0 : (List Nat)) : JC oM f_ways_number [(eT nI) arrows_0] (t_ways_number arrows_0) (some false) nI := by
 rw [← tq_ways_number]
 refine jc_fn rfl ?_
 unfold q_ways_number b_ways_number
 exact (js_ret (je_fr (je_b2 ob_sub (je_fz (jx_un ou_bits (je_fz (jx_un ou_lenT (je_pk rfl))))) (je_ret (e := eE nI) rfl))))
theorem r_lows_had (cube_0 : (List Nat)) : JC oM f_lows_had [(eT nI) cube_0] (t_lows_had cube_0) (some false) (eT nI) := by
 rw [← tq_lows_had]
 refine jc_fn rfl ?_
 unfold q_lows_had b_lows_had
 exact (js_seq (js_asgF (ltb rfl) (jx_call (jl_cons (je_nm rfl) fun a_1 => (jl_nil (jl_nil (jx_end (r_ways_number a_1) ⟨rfl, rfl⟩ rfl)))))) fun n_2 =>
 (js_ret (je_fr (je_fz (jx_un ou_tup (je_fz (jx_lc (noat_cons rfl noat_nil) (je_seqW (eT_seq _) (je_nm rfl)) (fun x_3 => (tg_name (ltb rfl))) (fun x_3 => (.s (.s (.n .nil)))) (fun x_3 => je_true) (fun x_3 => (je_b2 ob_shl1 (je_con rfl rfl) (je_b2 ob_sub (je_nm rfl) (je_fz (jx_call (jl_cons (je_nm rfl) fun a_4 => (jl_nil (jl_nil (jx_end (r_bits_number a_4) ⟨rfl, rfl⟩ rfl))))))))))))))))
theorem r__law_same_i5 (told_0 : (List Nat)) (due_0 : (List Nat)) : JC oM f__law_same [(eT nI) told_0, (eT nI) due_0] (t__law_same_i5 told_0 due_0) (some false) PyData.bool := by
 rw [← tq__law_same_i5]
 refine jc_fn rfl ?_
 unfold q__law_same_i5 b__law_same
 exact (js_ret (je_fr (je_andV (je_b2 ob_eqs (je_fz (jx_un ou_repr (je_pk rfl))) (je_fz (jx_un ou_repr (je_pk rfl)))) (je_b2 (ob_eqF (fa_T fa_nat) (leb rfl) (fun _ _ h => by cases h)) (je_nm rfl) (je_nm rfl)))))
theorem r__law_is_had_right (cube_0 : (List Nat)) (n_0 : Nat) (turn_0 : Nat) : JC oM f__law_is_had_right [(eT nI) cube_0, nI n_0, nI turn_0] (t__law_is_had_right cube_0 n_0 turn_0) (some false) PyData.bool := by
 rw [← tq__law_is_had_right]
 refine jc_fn rfl ?_
 unfold q__law_is_had_right b__law_is_had_right
 exact (js_seq (js_asgF (ltb rfl) (je_fr (je_fz (jx_un ou_tup (je_fz (jx_lc (noat_cons rfl noat_nil) (je_seqW (eT_seq _) (je_nm rfl)) (fun x_1 => (tg_name (ltb rfl))) (fun x_1 => (.s (.s (.s (.n (.s (.s (.s (.s .nil))))))))) (fun x_1 => je_true) (fun x_1 => (je_b2 ob_shl1 (je_con rfl rfl) (je_b2 ob_sub (je_nm rfl) (je_fz (jx_call (jl_cons (je_nm rfl) fun a_2 => (jl_nil (jl_nil (jx_end (r__law_many a_2) ⟨rfl, rfl⟩ rfl))))))))))))))) fun due_13 =>
 (js_seq (js_asgF (ltb rfl) (je_ite (je_bol (je_b2 ob_eq (je_nm rfl) (je_ret (e := eE nI) rfl))) (jx_call (jl_cons (je_nm rfl) fun a_16 => (jl_nil (jl_nil (jx_end (r_lows_had a_16) ⟨rfl, rfl⟩ rfl))))) (jx_call (jl_nil (jl_cons (je_nm rfl) fun a_17 => (jl_nil (jx_end (r_lows_had a_17) ⟨rfl, rfl⟩ rfl))))))) fun told_19 =>
 (js_seq (js_asgF (ltb rfl) (je_fr (je_ret (e := eE nI) rfl))) fun faces_20 =>
 (js_seq (js_for (Γs := (fun s_22 : Nat => [.val ((eT nI) cube_0), .val (nI n_0), .val (nI turn_0), .no, .val ((eT nI) due_13), .val ((eT nI) told_19), .val (nI s_22), .no])) (s0 := (faces_20 : Nat)) (je_rg1 (je_nm rfl)) (.s (.s (.s (.s (.s (.s (.s (.s .nil)))))))) (fun s_22 x_23 => (tg_name (ltb rfl))) (fun s_22 x_23 =>
 (js_last (js_asgF (ltb rfl) (jx_b2 (ox_mulc 3 (ltb rfl)) (je_nm rfl) (je_con rfl rfl))) fun faces_26 =>
 (js_nxB (s := faces_26) (.s (.s (.s (.s (.s (.s (.s (.n .nil)))))))))))) fun s_22 =>
 (js_ret (je_fr (je_andV (je_fz (jx_call (jl_cons (je_nm rfl) fun a_29 => (jl_cons (je_nm rfl) fun a_30 => (jl_nil (jl_nil (jx_end (r__law_same_i5 a_29 a_30) ⟨rfl, rfl⟩ rfl))))))) (je_b2 ob_eq (je_fz (jx_un ou_sum2T (je_pk rfl))) (je_nm rfl)))))))))
theorem r_law : JS wM [.no, .val (eBag ()), .no, .no, .no, .no, .no, .no, .no, .no, .no, .no] b_law t_law (RtP (some false) PyData.bool) := by
 rw [← tq_law]
 unfold q_law b_law
 exact (js_seq (js_asgF (ltb rfl) (jx_call (jl_cons (je_nm rfl) fun a_1 => (jl_nil (jl_nil (jx_end (r__law_size) ⟨rfl, rfl⟩ rfl)))))) fun n_2 =>
 (js_seq (js_asgO (ltb rfl) (je_lst (jl_cons (je_fz (jx_call (jl_cons (je_nm rfl) fun a_3 => (jl_cons (je_nm rfl) fun a_4 => (jl_nil (jl_nil (jx_end (r__law_good a_4) ⟨rfl, rfl⟩ rfl))))))) fun d_5 => (jl_nil (je_lstE (enc := (eL (eT nI))) (leb rfl) rfl))))) fun cubes_7 =>
 (js_seq (js_asgF (ltb rfl) (je_fr (je_orV (je_b2 ob_gt (je_nm rfl) (je_ret (e := eE nI) rfl)) (je_andV (je_b2 ob_gt (je_nm rfl) (je_ret (e := eE nI) rfl)) (je_b2 ob_eq (je_fz (jx_call (jl_cons (je_nm rfl) fun a_12 => (jl_cons (je_ret (e := eE nI) rfl) fun a_13 => (jl_nil (jl_nil (jx_end (r__law_draw a_13) ⟨rfl, rfl⟩ rfl))))))) (je_ret (e := eE nI) rfl)))))) fun is_near_19 =>
 (js_seq (js_push rfl (je_fz (je_ite (je_tru tr_bool (je_pk rfl)) (je_ko (jx_call (jl_cons (je_nm rfl) fun a_22 => (jl_cons (je_ixn ob_ixL rfl (je_ret (e := eE nI) rfl)) fun a_23 => (jl_cons (je_nm rfl) fun a_24 => (jl_nil (jl_nil (jx_end (r__law_class_turned a_23 a_24) ⟨rfl, rfl⟩ rfl)))))))) (jx_call (jl_cons (je_nm rfl) fun a_26 => (jl_cons (je_nm rfl) fun a_27 => (jl_nil (jl_nil (jx_end (r__law_good a_27) ⟨rfl, rfl⟩ rfl))))))))) fun cubes_29 =>
 (jp_par (jp_start (jp_cons (jx_call (jl_cons (je_nm rfl) fun a_32 => (jl_cons (je_nm rfl) fun a_33 => (jl_nil (jl_nil (jx_end (r__law_arrows a_33) ⟨rfl, rfl⟩ rfl)))))) fun arrows_36 => (jp_cons (jx_call (jl_cons (je_nm rfl) fun a_34 => (jl_cons (je_nm rfl) fun a_35 => (jl_nil (jl_nil (jx_end (r__law_faces a_35) ⟨rfl, rfl⟩ rfl)))))) fun faces_37 => (jp_nil rfl (fun i h => by simp at h; rcases h with rfl | rfl <;> exact ltb rfl) (js_seqR (js_wk (Γ' := [.no, .val (eBag ()), .val (nI n_2), .own ((eL (eT nI)) cubes_29), .val (PyData.bool is_near_19), .val ((eT nI) arrows_36), .val ((eL (eP nI nI)) faces_37), .no, .no, .no, .no, .no]) (.s (.s (.s (.s (.s (.s (.o (.s (.s (.s (.s (.s .nil)))))))))))) ((js_forR (Γs := (fun s_39 : Unit => [.no, .val (eBag ()), .val (nI n_2), .val ((eL (eT nI)) cubes_29), .val (PyData.bool is_near_19), .val ((eT nI) arrows_36), .val ((eL (eP nI nI)) faces_37), .no, .no, .no, .no, .no])) (s0 := (() : Unit)) (je_enum2 (enc := (eP nI nI)) (.inl fun _ => rfl) (je_nm rfl)) (.s (.s (.s (.o (.s (.s (.s (.s (.s (.s (.s (.s .nil)))))))))))) (fun s_39 x_40 => (tg_tup (ds := [nI x_40.1, (eP nI nI) x_40.2]) (.inl rfl) rfl (tgs_cons (tg_name (ltb rfl)) (tgs_cons (tg_name (ltb rfl)) tgs_nil)))) (fun s_39 x_40 =>
 (js_seqRM (js_forR (Γs := (fun s_41 : Unit => [.no, .val (eBag ()), .val (nI n_2), .val ((eL (eT nI)) cubes_29), .val (PyData.bool is_near_19), .val ((eT nI) arrows_36), .val ((eL (eP nI nI)) faces_37), .val (nI x_40.1), .val ((eP nI nI) x_40.2), .no, .no, .no])) (s0 := (() : Unit)) (je_seqW (eL_seq _) (je_nm rfl)) (.s (.s (.s (.s (.s (.s (.s (.s (.s (.s (.s (.s .nil)))))))))))) (fun s_41 x_42 => (tg_name (ltb rfl))) (fun s_41 x_42 =>
 (js_if (je_or (je_not (je_tru tr_bool (je_fz (jx_call (jl_cons (je_nm rfl) fun a_45 => (jl_cons (je_nm rfl) fun a_46 => (jl_cons (je_b2 ob_and (je_nm rfl) (je_ret (e := eE nI) rfl)) fun a_47 => (jl_nil (jl_nil (jx_end (JC.up (r__law_is_face_right a_45 a_46 a_47)) ⟨rfl, rfl⟩ rfl)))))))))) (je_not (je_tru tr_bool (je_fz (jx_call (jl_cons (je_nm rfl) fun a_54 => (jl_cons (je_nm rfl) fun a_55 => (jl_cons (je_b2 ob_and (je_nm rfl) (je_ret (e := eE nI) rfl)) fun a_56 => (jl_nil (jl_nil (jx_end (JC.up (r__law_is_named_right a_54 a_55 a_56)) ⟨rfl, rfl⟩ rfl)))))))))))
 (js_inl (js_ret (je_fr (je_ret (e := eE PyData.bool) rfl))) rt_MB)
 (js_nxMB (s := ()) (.s (.s (.s (.s (.s (.s (.s (.s (.s (.n (.s (.s .nil)))))))))))))))) rt_MB fun s_41 =>
 (js_seq (js_asgO (ltb rfl) (je_lst (jl_cons (je_fz (jx_call (jl_cons (je_nm rfl) fun a_67 => (jl_cons (je_nm rfl) fun a_68 => (jl_nil (jl_nil (jx_end (JC.up (r_low_corners a_67 a_68)) ⟨rfl, rfl⟩ rfl))))))) fun d_71 => (jl_cons (je_fz (jx_call (jl_cons (je_nm rfl) fun a_69 => (jl_cons (je_nm rfl) fun a_70 => (jl_nil (jl_nil (jx_end (JC.up (r_high_corners a_69 a_70)) ⟨rfl, rfl⟩ rfl))))))) fun d_72 => (jl_nil (je_lstE (enc := (eL (eT nI))) (leb rfl) rfl)))))) fun told_75 =>
 (js_wk (Γ' := [.no, .val (eBag ()), .val (nI n_2), .val ((eL (eT nI)) cubes_29), .val (PyData.bool is_near_19), .val ((eT nI) arrows_36), .val ((eL (eP nI nI)) faces_37), .val (nI x_40.1), .val ((eP nI nI) x_40.2), .no, .val ((eL (eT nI)) told_75), .no]) (.s (.s (.s (.s (.s (.s (.s (.s (.s (.s (.o (.s .nil)))))))))))) ((js_if (je_not (je_tru tr_bool (je_fz (jx_call (jl_cons (je_nm rfl) fun a_84 => (jl_cons (je_fz (je_lst (jl_cons (je_fz (jx_call (jl_cons (je_nm rfl) fun a_76 => (jl_cons (je_nm rfl) fun a_77 => (jl_nil (jl_nil (jx_end (JC.up (r__law_lows a_76 a_77)) ⟨rfl, rfl⟩ rfl))))))) fun d_80 => (jl_cons (je_fz (jx_call (jl_cons (je_nm rfl) fun a_78 => (jl_cons (je_nm rfl) fun a_79 => (jl_nil (jl_nil (jx_end (JC.up (r__law_highs a_78 a_79)) ⟨rfl, rfl⟩ rfl))))))) fun d_81 => (jl_nil (je_lstE (enc := (eL (eT nI))) (leb rfl) rfl)))))) fun a_85 => (jl_nil (jl_nil (jx_end (JC.up (r__law_same_i3 a_84 a_85)) ⟨rfl, rfl⟩ rfl)))))))))
 (js_inl (js_ret (je_fr (je_ret (e := eE PyData.bool) rfl))) rt_MB)
 (js_nxMB (s := ()) (.s (.s (.s (.s (.s (.s (.s (.n (.n (.s (.n (.s .nil)))))))))))))))))))))) fun s_39 =>
 (js_seqR (js_forR (Γs := (fun s_97 : Unit => [.no, .val (eBag ()), .val (nI n_2), .val ((eL (eT nI)) cubes_29), .val (PyData.bool is_near_19), .val ((eT nI) arrows_36), .val ((eL (eP nI nI)) faces_37), .no, .no, .no, .no, .no])) (s0 := (() : Unit)) (je_rg1 (je_ret (e := eE nI) rfl)) (.s (.s (.s (.s (.s (.s (.s (.s (.s (.s (.s (.s .nil)))))))))))) (fun s_97 x_98 => (tg_name (ltb rfl))) (fun s_97 x_98 =>
 (js_if (je_not (je_tru tr_bool (je_fz (jx_call (jl_cons (je_nm rfl) fun a_102 => (jl_cons (je_ixn ob_ixL rfl (je_b2 ob_and (je_nm rfl) (je_ret (e := eE nI) rfl))) fun a_103 => (jl_cons (je_nm rfl) fun a_104 => (jl_nil (jl_nil (jx_end (r__law_is_within_right a_103 a_104) ⟨rfl, rfl⟩ rfl))))))))))
 (js_inl (js_ret (je_fr (je_ret (e := eE PyData.bool) rfl))) rt_MB)
 (js_nxMB (s := ()) (.s (.s (.s (.s (.s (.s (.s (.s (.s (.s (.s (.n .nil)))))))))))))))) fun s_97 =>
 (js_seqR (js_forR (Γs := (fun s_123 : Unit => [.no, .val (eBag ()), .val (nI n_2), .val ((eL (eT nI)) cubes_29), .val (PyData.bool is_near_19), .val ((eT nI) arrows_36), .val ((eL (eP nI nI)) faces_37), .no, .no, .no, .no, .no])) (s0 := (() : Unit)) (je_enum2 (enc := (eT nI)) (.inl fun _ => rfl) (je_fz (je_ite (je_bol (je_b2 ob_lt (je_nm rfl) (je_ret (e := eE nI) rfl))) (je_ko (je_fr (je_nm rfl))) (je_ko (jx_slL (je_nm rfl) jp_none (jp_nat (je_ret (e := eE nI) rfl))))))) (.s (.s (.s (.s (.s (.s (.s (.s (.s (.s (.s (.s .nil)))))))))))) (fun s_123 x_124 => (tg_tup (ds := [nI x_124.1, (eT nI) x_124.2]) (.inl rfl) rfl (tgs_cons (tg_name (ltb rfl)) (tgs_cons (tg_name (ltb rfl)) tgs_nil)))) (fun s_123 x_124 =>
 (js_if (je_or (je_not (je_tru tr_bool (je_fz (jx_call (jl_cons (je_nm rfl) fun a_125 => (jl_cons (je_nm rfl) fun a_126 => (jl_cons (je_nm rfl) fun a_127 => (jl_nil (jl_nil (jx_end (JC.up (r__law_is_had_right a_125 a_126 a_127)) ⟨rfl, rfl⟩ rfl)))))))))) (je_and (je_bol (je_b2 ob_lt (je_nm rfl) (je_ret (e := eE nI) rfl))) (je_not (je_tru tr_bool (je_fz (jx_call (jl_cons (je_nm rfl) fun a_136 => (jl_cons (je_nm rfl) fun a_137 => (jl_cons (je_b2 ob_sub (je_ret (e := eE nI) rfl) (je_nm rfl)) fun a_138 => (jl_nil (jl_nil (jx_end (JC.up (r__law_is_had_right a_136 a_137 a_138)) ⟨rfl, rfl⟩ rfl))))))))))))
 (js_inl (js_ret (je_fr (je_ret (e := eE PyData.bool) rfl))) rt_MB)
 (js_nxMB (s := ()) (.s (.s (.s (.s (.s (.s (.s (.n (.s (.n (.s (.s .nil)))))))))))))))) fun s_123 =>
 (js_ret (je_fr (je_fz (jx_un ou_all (je_fz (jx_lc (noat_cons rfl noat_nil) (je_seqW (eL_seq _) (je_fz (je_lst (jl_cons (je_ixn ob_ixL rfl (je_ret (e := eE nI) rfl)) fun d_158 => (jl_cons (je_ixn ob_ixL rfl (je_b2 ob_sub (je_fz (jx_un ou_len (je_pk rfl))) (je_ret (e := eE nI) rfl))) fun d_159 => (jl_nil (je_lstE (enc := (eL (eP nI nI))) (leb rfl) rfl))))))) (fun x_162 => (tg_name (ltb rfl))) (fun x_162 => (.s (.s (.s (.s (.s (.s (.s (.s (.n (.s (.s (.s .nil))))))))))))) (fun x_162 => je_true) (fun x_162 => (je_fz (jx_call (jl_cons (je_ixn ob_ixL rfl (je_ret (e := eE nI) rfl)) fun a_164 => (jl_cons (je_nm rfl) fun a_165 => (jl_cons (je_ret (e := eE nI) rfl) fun a_166 => (jl_nil (jl_nil (jx_end (JC.up (r__law_is_face_right a_164 a_165 a_166)) ⟨rfl, rfl⟩ rfl)))))))))))))))))))))))))))
end Cw
namespace Cw
open PySem PySem.Spec PyProof.Rows L2 PL
theorem law_en : ∀ n : Nat, EnR (List.replicate n .no) (List.replicate n none)
  | 0 => trivial
  | n + 1 => ⟨trivial, law_en n⟩
theorem hL : ∀ (cs : List Int) (m : Int), cs.length ≤ 63 → ∃ e b, b_law (lawEn 12) ⟨cs, 0, m, false⟩ = .ok (.rt (false, .bool true)) e b := by
  intro cs m hl
  obtain ⟨fl, x, e, b', h1, ⟨r, rfl, hr, hk⟩, _, hx⟩ := r_law (lawEn 12) ⟨cs, 0, m, false⟩ (fun b => b = true) ⟨trivial, ⟨false, rfl⟩, law_en 10⟩ ⟨hl, rfl⟩ (law_n _ fun y h => h)
  obtain ⟨k, d⟩ := r
  cases hx
  cases hr
  cases hk false rfl
  exact ⟨e, b', h1⟩
end Cw
namespace Cw
open PySem PySem.Spec PyProof.Rows L2 PL
def top (i : Nat) : Stmt := PySem.Challenge.pw_onelowcorner_k06_whole_counts_and_lows.main.body.getD i (.Pass ⟨0, 0, 0, 0⟩)
def tab : List (Str × Nat) := [(("bits_number" : Str), 1), (("subsets_of" : Str), 2), (("face_corners" : Str), 4), (("ways_number" : Str), 5), (("low_corners" : Str), 6), (("high_corners" : Str), 7), (("corner_named" : Str), 12), (("leaving_counts" : Str), 13), (("low_of" : Str), 14), (("high_of" : Str), 15), (("lows_had" : Str), 16), (("_law_bag" : Str), 18), (("_law_draw" : Str), 19), (("_law_pick" : Str), 20), (("_law_same" : Str), 21), (("_law_size" : Str), 22), (("_law_order" : Str), 23), (("_law_ordered" : Str), 24), (("_law_moved" : Str), 25), (("_law_merged" : Str), 26), (("_law_tied" : Str), 27), (("_law_class_turned" : Str), 28), (("_law_joined" : Str), 29), (("_law_good" : Str), 30), (("_law_arrows" : Str), 31), (("_law_corners" : Str), 32), (("_law_many" : Str), 33), (("_law_lows" : Str), 34), (("_law_highs" : Str), 35), (("_law_binomials" : Str), 36), (("_law_faces" : Str), 37), (("_law_is_face_right" : Str), 38), (("_law_is_named_right" : Str), 39), (("_law_is_within_right" : Str), 40), (("_law_is_had_right" : Str), 41), (("law" : Str), 42)]
def bl : List Str := ["ValueError", "abs", "all", "enumerate", "int", "len", "list", "range", "repr", "reversed", "sorted", "sum", "super", "tuple"]
def gi : List (Str × Int) := []
section
variable {P : Program} {w : World} {K : PySem.W.Frag} {mg : Str → Option Value} {base : Heap} {β γ : Addr} {xr : ExR}
theorem pb_subsets_of_0 {K : PySem.W.Frag} {f : Addr} {fd : FuncData} (Fd : FunD K "subsets_of" "subsets_of" (defArgs (top 2)) (defBody (top 2)) (defScope (top 2)) [] [] f fd) : PB fd ["ways"] [] 1 [0] := PB.mk Fd fun _ _ _ _ _ _ us ws h1 h2 => match us, ws, h1, h2 with | [_], [], _, _ => rfl
theorem pb_face_corners_0 {K : PySem.W.Frag} {f : Addr} {fd : FuncData} (Fd : FunD K "face_corners" "face_corners" (defArgs (top 4)) (defBody (top 4)) (defScope (top 4)) [] [] f fd) : PB fd ["face"] [] 1 [0] := PB.mk Fd fun _ _ _ _ _ _ us ws h1 h2 => match us, ws, h1, h2 with | [_], [], _, _ => rfl
theorem pb_bits_number_0 {K : PySem.W.Frag} {f : Addr} {fd : FuncData} (Fd : FunD K "bits_number" "bits_number" (defArgs (top 1)) (defBody (top 1)) (defScope (top 1)) [] [] f fd) : PB fd ["ways"] [] 1 [0] := PB.mk Fd fun _ _ _ _ _ _ us ws h1 h2 => match us, ws, h1, h2 with | [_], [], _, _ => rfl
theorem pb_corner_named_0 {K : PySem.W.Frag} {f : Addr} {fd : FuncData} (Fd : FunD K "corner_named" "corner_named" (defArgs (top 12)) (defBody (top 12)) (defScope (top 12)) [] [] f fd) : PB fd ["cube", "face", "ways"] [] 3 [0, 1, 2] := PB.mk Fd fun _ _ _ _ _ _ us ws h1 h2 => match us, ws, h1, h2 with | [_, _, _], [], _, _ => rfl
theorem pb_ways_number_0 {K : PySem.W.Frag} {f : Addr} {fd : FuncData} (Fd : FunD K "ways_number" "ways_number" (defArgs (top 5)) (defBody (top 5)) (defScope (top 5)) [] [] f fd) : PB fd ["arrows"] [] 1 [0] := PB.mk Fd fun _ _ _ _ _ _ us ws h1 h2 => match us, ws, h1, h2 with | [_], [], _, _ => rfl
theorem pb__law_draw_0 {K : PySem.W.Frag} {f : Addr} {fd : FuncData} (Fd : FunD K "_law_draw" "_law_draw" (defArgs (top 19)) (defBody (top 19)) (defScope (top 19)) [] [] f fd) : PB fd ["bag", "below"] [] 2 [0, 1] := PB.mk Fd fun _ _ _ _ _ _ us ws h1 h2 => match us, ws, h1, h2 with | [_, _], [], _, _ => rfl
theorem pb__law_ordered_0 {K : PySem.W.Frag} {f : Addr} {fd : FuncData} (Fd : FunD K "_law_ordered" "_law_ordered" (defArgs (top 24)) (defBody (top 24)) (defScope (top 24)) [] [] f fd) : PB fd ["arrows", "order"] [] 2 [0, 1] := PB.mk Fd fun _ _ _ _ _ _ us ws h1 h2 => match us, ws, h1, h2 with | [_, _], [], _, _ => rfl
theorem pb__law_merged_0 {K : PySem.W.Frag} {f : Addr} {fd : FuncData} (Fd : FunD K "_law_merged" "_law_merged" (defArgs (top 26)) (defBody (top 26)) (defScope (top 26)) [] [] f fd) : PB fd ["marks", "pairs"] [] 2 [0, 1] := PB.mk Fd fun _ _ _ _ _ _ us ws h1 h2 => match us, ws, h1, h2 with | [_, _], [], _, _ => rfl
theorem pb__law_pick_0 {K : PySem.W.Frag} {f : Addr} {fd : FuncData} (Fd : FunD K "_law_pick" "_law_pick" (defArgs (top 20)) (defBody (top 20)) (defScope (top 20)) [] [] f fd) : PB fd ["bag", "some"] [] 2 [0, 1] := PB.mk Fd fun _ _ _ _ _ _ us ws h1 h2 => match us, ws, h1, h2 with | [_, _], [], _, _ => rfl
theorem pb__law_moved_0 {K : PySem.W.Frag} {f : Addr} {fd : FuncData} (Fd : FunD K "_law_moved" "_law_moved" (defArgs (top 25)) (defBody (top 25)) (defScope (top 25)) [] [] f fd) : PB fd ["arrows", "order", "corner"] [] 3 [0, 1, 2] := PB.mk Fd fun _ _ _ _ _ _ us ws h1 h2 => match us, ws, h1, h2 with | [_, _, _], [], _, _ => rfl
theorem pb__law_order_0 {K : PySem.W.Frag} {f : Addr} {fd : FuncData} (Fd : FunD K "_law_order" "_law_order" (defArgs (top 23)) (defBody (top 23)) (defScope (top 23)) [] [] f fd) : PB fd ["bag", "n"] [] 2 [0, 1] := PB.mk Fd fun _ _ _ _ _ _ us ws h1 h2 => match us, ws, h1, h2 with | [_, _], [], _, _ => rfl
theorem pb__law_joined_0 {K : PySem.W.Frag} {f : Addr} {fd : FuncData} (Fd : FunD K "_law_joined" "_law_joined" (defArgs (top 29)) (defBody (top 29)) (defScope (top 29)) [] [] f fd) : PB fd ["bag", "n"] [] 2 [0, 1] := PB.mk Fd fun _ _ _ _ _ _ us ws h1 h2 => match us, ws, h1, h2 with | [_, _], [], _, _ => rfl
theorem pb__law_class_turned_0 {K : PySem.W.Frag} {f : Addr} {fd : FuncData} (Fd : FunD K "_law_class_turned" "_law_class_turned" (defArgs (top 28)) (defBody (top 28)) (defScope (top 28)) [] [] f fd) : PB fd ["bag", "cube", "n"] [] 3 [0, 1, 2] := PB.mk Fd fun _ _ _ _ _ _ us ws h1 h2 => match us, ws, h1, h2 with | [_, _, _], [], _, _ => rfl
theorem pb__law_tied_0 {K : PySem.W.Frag} {f : Addr} {fd : FuncData} (Fd : FunD K "_law_tied" "_law_tied" (defArgs (top 27)) (defBody (top 27)) (defScope (top 27)) [] [] f fd) : PB fd ["below", "above"] [] 2 [0, 1] := PB.mk Fd fun _ _ _ _ _ _ us ws h1 h2 => match us, ws, h1, h2 with | [_, _], [], _, _ => rfl
theorem pb__law_corners_0 {K : PySem.W.Frag} {f : Addr} {fd : FuncData} (Fd : FunD K "_law_corners" "_law_corners" (defArgs (top 32)) (defBody (top 32)) (defScope (top 32)) [] [] f fd) : PB fd ["face"] [] 1 [0] := PB.mk Fd fun _ _ _ _ _ _ us ws h1 h2 => match us, ws, h1, h2 with | [_], [], _, _ => rfl
theorem pb__law_lows_0 {K : PySem.W.Frag} {f : Addr} {fd : FuncData} (Fd : FunD K "_law_lows" "_law_lows" (defArgs (top 34)) (defBody (top 34)) (defScope (top 34)) [] [] f fd) : PB fd ["arrows", "face"] [] 2 [0, 1] := PB.mk Fd fun _ _ _ _ _ _ us ws h1 h2 => match us, ws, h1, h2 with | [_, _], [], _, _ => rfl
theorem pb__law_highs_0 {K : PySem.W.Frag} {f : Addr} {fd : FuncData} (Fd : FunD K "_law_highs" "_law_highs" (defArgs (top 35)) (defBody (top 35)) (defScope (top 35)) [] [] f fd) : PB fd ["arrows", "face"] [] 2 [0, 1] := PB.mk Fd fun _ _ _ _ _ _ us ws h1 h2 => match us, ws, h1, h2 with | [_, _], [], _, _ => rfl
theorem pb__law_binomials_0 {K : PySem.W.Frag} {f : Addr} {fd : FuncData} (Fd : FunD K "_law_binomials" "_law_binomials" (defArgs (top 36)) (defBody (top 36)) (defScope (top 36)) [] [] f fd) : PB fd ["many"] [] 1 [0] := PB.mk Fd fun _ _ _ _ _ _ us ws h1 h2 => match us, ws, h1, h2 with | [_], [], _, _ => rfl
theorem pb__law_many_0 {K : PySem.W.Frag} {f : Addr} {fd : FuncData} (Fd : FunD K "_law_many" "_law_many" (defArgs (top 33)) (defBody (top 33)) (defScope (top 33)) [] [] f fd) : PB fd ["some"] [] 1 [0] := PB.mk Fd fun _ _ _ _ _ _ us ws h1 h2 => match us, ws, h1, h2 with | [_], [], _, _ => rfl
theorem pb_low_of_0 {K : PySem.W.Frag} {f : Addr} {fd : FuncData} (Fd : FunD K "low_of" "low_of" (defArgs (top 14)) (defBody (top 14)) (defScope (top 14)) [] [] f fd) : PB fd ["cube", "face"] [] 2 [0, 1] := PB.mk Fd fun _ _ _ _ _ _ us ws h1 h2 => match us, ws, h1, h2 with | [_, _], [], _, _ => rfl
theorem pb_high_of_0 {K : PySem.W.Frag} {f : Addr} {fd : FuncData} (Fd : FunD K "high_of" "high_of" (defArgs (top 15)) (defBody (top 15)) (defScope (top 15)) [] [] f fd) : PB fd ["cube", "face"] [] 2 [0, 1] := PB.mk Fd fun _ _ _ _ _ _ us ws h1 h2 => match us, ws, h1, h2 with | [_, _], [], _, _ => rfl
theorem pb_leaving_counts_0 {K : PySem.W.Frag} {f : Addr} {fd : FuncData} (Fd : FunD K "leaving_counts" "leaving_counts" (defArgs (top 13)) (defBody (top 13)) (defScope (top 13)) [] [] f fd) : PB fd ["cube", "face"] [] 2 [0, 1] := PB.mk Fd fun _ _ _ _ _ _ us ws h1 h2 => match us, ws, h1, h2 with | [_, _], [], _, _ => rfl
theorem pb_low_corners_0 {K : PySem.W.Frag} {f : Addr} {fd : FuncData} (Fd : FunD K "low_corners" "low_corners" (defArgs (top 6)) (defBody (top 6)) (defScope (top 6)) [] [] f fd) : PB fd ["arrows", "face"] [] 2 [0, 1] := PB.mk Fd fun _ _ _ _ _ _ us ws h1 h2 => match us, ws, h1, h2 with | [_, _], [], _, _ => rfl
theorem pb_high_corners_0 {K : PySem.W.Frag} {f : Addr} {fd : FuncData} (Fd : FunD K "high_corners" "high_corners" (defArgs (top 7)) (defBody (top 7)) (defScope (top 7)) [] [] f fd) : PB fd ["arrows", "face"] [] 2 [0, 1] := PB.mk Fd fun _ _ _ _ _ _ us ws h1 h2 => match us, ws, h1, h2 with | [_, _], [], _, _ => rfl
theorem pb_low_of_1 {K : PySem.W.Frag} {f : Addr} {fd : FuncData} (Fd : FunD K "low_of" "low_of" (defArgs (top 14)) (defBody (top 14)) (defScope (top 14)) [] [] f fd) : PB fd ["cube", "face"] ["cube", "face"] 0 [0, 1] := PB.mk Fd fun _ _ _ _ _ _ us ws h1 h2 => match us, ws, h1, h2 with | [], [_, _], _, _ => rfl
theorem pb_high_of_1 {K : PySem.W.Frag} {f : Addr} {fd : FuncData} (Fd : FunD K "high_of" "high_of" (defArgs (top 15)) (defBody (top 15)) (defScope (top 15)) [] [] f fd) : PB fd ["cube", "face"] ["face", "cube"] 0 [1, 0] := PB.mk Fd fun _ _ _ _ _ _ us ws h1 h2 => match us, ws, h1, h2 with | [], [_, _], _, _ => rfl
theorem pb_leaving_counts_1 {K : PySem.W.Frag} {f : Addr} {fd : FuncData} (Fd : FunD K "leaving_counts" "leaving_counts" (defArgs (top 13)) (defBody (top 13)) (defScope (top 13)) [] [] f fd) : PB fd ["cube", "face"] ["cube", "face"] 0 [0, 1] := PB.mk Fd fun _ _ _ _ _ _ us ws h1 h2 => match us, ws, h1, h2 with | [], [_, _], _, _ => rfl
theorem pb_low_corners_1 {K : PySem.W.Frag} {f : Addr} {fd : FuncData} (Fd : FunD K "low_corners" "low_corners" (defArgs (top 6)) (defBody (top 6)) (defScope (top 6)) [] [] f fd) : PB fd ["arrows", "face"] ["arrows", "face"] 0 [0, 1] := PB.mk Fd fun _ _ _ _ _ _ us ws h1 h2 => match us, ws, h1, h2 with | [], [_, _], _, _ => rfl
theorem pb_high_corners_1 {K : PySem.W.Frag} {f : Addr} {fd : FuncData} (Fd : FunD K "high_corners" "high_corners" (defArgs (top 7)) (defBody (top 7)) (defScope (top 7)) [] [] f fd) : PB fd ["arrows", "face"] ["face", "arrows"] 0 [1, 0] := PB.mk Fd fun _ _ _ _ _ _ us ws h1 h2 => match us, ws, h1, h2 with | [], [_, _], _, _ => rfl
theorem pb__law_same_0 {K : PySem.W.Frag} {f : Addr} {fd : FuncData} (Fd : FunD K "_law_same" "_law_same" (defArgs (top 21)) (defBody (top 21)) (defScope (top 21)) [] [] f fd) : PB fd ["told", "due"] [] 2 [0, 1] := PB.mk Fd fun _ _ _ _ _ _ us ws h1 h2 => match us, ws, h1, h2 with | [_, _], [], _, _ => rfl
theorem pb_corner_named_1 {K : PySem.W.Frag} {f : Addr} {fd : FuncData} (Fd : FunD K "corner_named" "corner_named" (defArgs (top 12)) (defBody (top 12)) (defScope (top 12)) [] [] f fd) : PB fd ["cube", "face", "ways"] ["cube", "face", "ways"] 0 [0, 1, 2] := PB.mk Fd fun _ _ _ _ _ _ us ws h1 h2 => match us, ws, h1, h2 with | [], [_, _, _], _, _ => rfl
theorem pb_corner_named_2 {K : PySem.W.Frag} {f : Addr} {fd : FuncData} (Fd : FunD K "corner_named" "corner_named" (defArgs (top 12)) (defBody (top 12)) (defScope (top 12)) [] [] f fd) : PB fd ["cube", "face", "ways"] ["face", "ways", "cube"] 0 [2, 0, 1] := PB.mk Fd fun _ _ _ _ _ _ us ws h1 h2 => match us, ws, h1, h2 with | [], [_, _, _], _, _ => rfl
theorem pb_lows_had_0 {K : PySem.W.Frag} {f : Addr} {fd : FuncData} (Fd : FunD K "lows_had" "lows_had" (defArgs (top 16)) (defBody (top 16)) (defScope (top 16)) [] [] f fd) : PB fd ["cube"] [] 1 [0] := PB.mk Fd fun _ _ _ _ _ _ us ws h1 h2 => match us, ws, h1, h2 with | [_], [], _, _ => rfl
theorem pb_lows_had_1 {K : PySem.W.Frag} {f : Addr} {fd : FuncData} (Fd : FunD K "lows_had" "lows_had" (defArgs (top 16)) (defBody (top 16)) (defScope (top 16)) [] [] f fd) : PB fd ["cube"] ["cube"] 0 [0] := PB.mk Fd fun _ _ _ _ _ _ us ws h1 h2 => match us, ws, h1, h2 with | [], [_], _, _ => rfl
theorem pb__law_size_0 {K : PySem.W.Frag} {f : Addr} {fd : FuncData} (Fd : FunD K "_law_size" "_law_size" (defArgs (top 22)) (defBody (top 22)) (defScope (top 22)) [] [] f fd) : PB fd ["bag"] [] 1 [0] := PB.mk Fd fun _ _ _ _ _ _ us ws h1 h2 => match us, ws, h1, h2 with | [_], [], _, _ => rfl
theorem pb__law_good_0 {K : PySem.W.Frag} {f : Addr} {fd : FuncData} (Fd : FunD K "_law_good" "_law_good" (defArgs (top 30)) (defBody (top 30)) (defScope (top 30)) [] [] f fd) : PB fd ["bag", "n"] [] 2 [0, 1] := PB.mk Fd fun _ _ _ _ _ _ us ws h1 h2 => match us, ws, h1, h2 with | [_, _], [], _, _ => rfl
theorem pb__law_arrows_0 {K : PySem.W.Frag} {f : Addr} {fd : FuncData} (Fd : FunD K "_law_arrows" "_law_arrows" (defArgs (top 31)) (defBody (top 31)) (defScope (top 31)) [] [] f fd) : PB fd ["bag", "n"] [] 2 [0, 1] := PB.mk Fd fun _ _ _ _ _ _ us ws h1 h2 => match us, ws, h1, h2 with | [_, _], [], _, _ => rfl
theorem pb__law_faces_0 {K : PySem.W.Frag} {f : Addr} {fd : FuncData} (Fd : FunD K "_law_faces" "_law_faces" (defArgs (top 37)) (defBody (top 37)) (defScope (top 37)) [] [] f fd) : PB fd ["bag", "n"] [] 2 [0, 1] := PB.mk Fd fun _ _ _ _ _ _ us ws h1 h2 => match us, ws, h1, h2 with | [_, _], [], _, _ => rfl
theorem pb__law_is_face_right_0 {K : PySem.W.Frag} {f : Addr} {fd : FuncData} (Fd : FunD K "_law_is_face_right" "_law_is_face_right" (defArgs (top 38)) (defBody (top 38)) (defScope (top 38)) [] [] f fd) : PB fd ["cube", "face", "turn"] [] 3 [0, 1, 2] := PB.mk Fd fun _ _ _ _ _ _ us ws h1 h2 => match us, ws, h1, h2 with | [_, _, _], [], _, _ => rfl
theorem pb__law_is_named_right_0 {K : PySem.W.Frag} {f : Addr} {fd : FuncData} (Fd : FunD K "_law_is_named_right" "_law_is_named_right" (defArgs (top 39)) (defBody (top 39)) (defScope (top 39)) [] [] f fd) : PB fd ["cube", "face", "turn"] [] 3 [0, 1, 2] := PB.mk Fd fun _ _ _ _ _ _ us ws h1 h2 => match us, ws, h1, h2 with | [_, _, _], [], _, _ => rfl
theorem pb__law_is_within_right_0 {K : PySem.W.Frag} {f : Addr} {fd : FuncData} (Fd : FunD K "_law_is_within_right" "_law_is_within_right" (defArgs (top 40)) (defBody (top 40)) (defScope (top 40)) [] [] f fd) : PB fd ["bag", "cube", "n"] [] 3 [0, 1, 2] := PB.mk Fd fun _ _ _ _ _ _ us ws h1 h2 => match us, ws, h1, h2 with | [_, _, _], [], _, _ => rfl
theorem pb__law_is_had_right_0 {K : PySem.W.Frag} {f : Addr} {fd : FuncData} (Fd : FunD K "_law_is_had_right" "_law_is_had_right" (defArgs (top 41)) (defBody (top 41)) (defScope (top 41)) [] [] f fd) : PB fd ["cube", "n", "turn"] [] 3 [0, 1, 2] := PB.mk Fd fun _ _ _ _ _ _ us ws h1 h2 => match us, ws, h1, h2 with | [_, _, _], [], _, _ => rfl
theorem pb__law_bag_0 {K : PySem.W.Frag} {f : Addr} {fd : FuncData} (Fd : FunD K "_law_bag" "_law_bag" (defArgs (top 18)) (defBody (top 18)) (defScope (top 18)) [] [] f fd) : PB fd ["script"] [] 1 [0] := PB.mk Fd fun _ _ _ _ _ _ us ws h1 h2 => match us, ws, h1, h2 with | [_], [], _, _ => rfl
theorem sc_bits_number : FnScope ["ways", "found"] ["ways"] (defScope (top 1)) := ⟨rfl, rfl, rfl, by decide +kernel, rfl, by decide +kernel, by decide +kernel⟩
theorem ok_bits_number (c : Facts top tab bl gi K mg) : DfOk P w K mg base 1 "bits_number" (top 1) ["ways"] β γ xr 1 f_bits_number := by
  obtain ⟨f, fd, g0, Fd⟩ := c.dAt 0 (p := ("bits_number", 1)) rfl
  refine ⟨f, fd, g0, Fd, FnG.ofM Fd sc_bits_number rfl fun cdv A outer s H F0 E hr hgd tk hp => ?_⟩
  have hu := hr.units
  have hu2 : _ + 200 < cLine := L2Room_units200 hr
  exact (rss_cons (rs_asg (ps_set (i := 1) sc_bits_number.nd rfl (Or.inl rfl) (re_fr re_int))) (rss_cons (rs_while 100 hp (rt_gt (re_var (pv 0)) re_int) (rss_one (rs_par2 (cons_len (cons_len nil_len)) (ps_par (i := 1) (j := 0) rfl sc_bits_number.nd rfl rfl (by decide) rfl rfl (rr_cons (rx_add (re_var (pv 1)) (re_andB (re_var (pv 0)) re_int)) (rr_cons (re_fr (re_shr (re_var (pv 0)) re_int)) rr_nil)) (by kernel_rfl))))) (rss_one (rs_retN (pv 1)))))
theorem sc_subsets_of : FnScope ["ways", "found", "i", "own"] ["ways"] (defScope (top 2)) := ⟨rfl, rfl, rfl, by decide +kernel, rfl, by decide +kernel, by decide +kernel⟩
theorem ok_subsets_of (c : Facts top tab bl gi K mg) : DfOk P w K mg base 1 "subsets_of" (top 2) ["ways"] β γ xr 1 f_subsets_of := by
  obtain ⟨f, fd, g0, Fd⟩ := c.dAt 1 (p := ("subsets_of", 2)) rfl
  have g_range := c.bAt 7 (x := "range") rfl
  refine ⟨f, fd, g0, Fd, FnG.ofM Fd sc_subsets_of rfl fun cdv A outer s H F0 E hr hgd tk hp => ?_⟩
  have hu := hr.units
  have hu2 : _ + 200 < cLine := L2Room_units200 hr
  exact (rss_cons (rs_asg (ps_set (i := 1) sc_subsets_of.nd rfl (Or.inl rfl) (rx_lst (ra_cons re_int ra_nil)))) (rss_cons (rs_for hp rfl (ri_rg1 (ra_cons (re_bits (rp_var (pv 0))) ra_nil) rfl g_range) (rg_name (vs := [2]) (pg_name sc_subsets_of.nd (i := 2) rfl (by first | exact Or.inl rfl | exact Or.inr rfl))) (rss_one (rs_if (rt_eq hu (re_andB (re_shr (re_var (pv 0)) (re_var (pv 2))) re_int) re_int) (rss_one (rs_asg (ps_set (i := 1) sc_subsets_of.nd rfl (Or.inl rfl) (rx_add (re_var (pv 1)) (rx_fz (rx_lc rfl sc_subsets_of.nd (ri_seq (re_var (pv 1))) (own := [("own", 3)]) (blkOk_by (by kernel_rfl)) (fun _ _ _ _ _ => (rg_name (vs := [3]) (pg_name sc_subsets_of.nd (i := 3) rfl (by first | exact Or.inl rfl | exact Or.inr rfl)))) (fun _ _ _ _ _ => rts_nil) (fun _ _ _ _ _ => (re_orB (re_var (pv 3)) (re_shl re_int (re_var (pv 2))))))))))) rss_nil))) (rss_one (rs_retN (pv 1)))))
theorem sc_face_corners : FnScope ["face", "own"] ["face"] (defScope (top 4)) := ⟨rfl, rfl, rfl, by decide +kernel, rfl, by decide +kernel, by decide +kernel⟩
theorem ok_face_corners (c : Facts top tab bl gi K mg) : DfOk P w K mg base 2 "face_corners" (top 4) ["face"] β γ xr 1 f_face_corners := by
  obtain ⟨f, fd, g0, Fd⟩ := c.dAt 2 (p := ("face_corners", 4)) rfl
  obtain ⟨f_subsets_of', fd_subsets_of, g_subsets_of, F_subsets_of, G_subsets_of⟩ := ok_subsets_of (P := P) (w := w) (base := base) (β := β) (γ := γ) (xr := xr) c
  have g_tuple := c.bAt 13 (x := "tuple") rfl
  refine ⟨f, fd, g0, Fd, FnG.ofM Fd sc_face_corners rfl fun cdv A outer s H F0 E hr hgd tk hp => ?_⟩
  have hu := hr.units
  have hu2 : _ + 200 < cLine := L2Room_units200 hr
  exact (rss_one (rs_ret (re_fr (re_tuple (re_pk (rx_fz (rx_lc rfl sc_face_corners.nd (ri_seq (rx_fz (rx_call G_subsets_of (hr.mono (by decide)) hgd (pb_subsets_of_0 F_subsets_of) tk rfl g_subsets_of F_subsets_of.kp (ra_cons (re_ixN (pv 0) re_int) ra_nil)))) (own := [("own", 1)]) (blkOk_by (by kernel_rfl)) (fun _ _ _ _ _ => (rg_name (vs := [1]) (pg_name sc_face_corners.nd (i := 1) rfl (by first | exact Or.inl rfl | exact Or.inr rfl)))) (fun _ _ _ _ _ => rts_nil) (fun _ _ _ _ _ => (re_orB (re_ixN (pv 0) re_int) (re_var (pv 1))))))) rfl g_tuple))))
theorem sc_ways_number : FnScope ["arrows"] ["arrows"] (defScope (top 5)) := ⟨rfl, rfl, rfl, by decide +kernel, rfl, by decide +kernel, by decide +kernel⟩
theorem ok_ways_number (c : Facts top tab bl gi K mg) : DfOk P w K mg base 1 "ways_number" (top 5) ["arrows"] β γ xr 1 f_ways_number := by
  obtain ⟨f, fd, g0, Fd⟩ := c.dAt 3 (p := ("ways_number", 5)) rfl
  have g_len := c.bAt 5 (x := "len") rfl
  refine ⟨f, fd, g0, Fd, FnG.ofM Fd sc_ways_number rfl fun cdv A outer s H F0 E hr hgd tk hp => ?_⟩
  have hu := hr.units
  have hu2 : _ + 200 < cLine := L2Room_units200 hr
  exact (rss_one (rs_ret (re_fr (re_sub (re_bits (re_pk (re_len (rp_var (pv 0)) rfl g_len))) re_int))))
theorem sc_low_corners : FnScope ["arrows", "face", "v"] ["arrows", "face"] (defScope (top 6)) := ⟨rfl, rfl, rfl, by decide +kernel, rfl, by decide +kernel, by decide +kernel⟩
theorem ok_low_corners (c : Facts top tab bl gi K mg) : DfOk P w K mg base 3 "low_corners" (top 6) ["arrows", "face"] β γ xr 2 f_low_corners := by
  obtain ⟨f, fd, g0, Fd⟩ := c.dAt 4 (p := ("low_corners", 6)) rfl
  obtain ⟨f_face_corners', fd_face_corners, g_face_corners, F_face_corners, G_face_corners⟩ := ok_face_corners (P := P) (w := w) (base := base) (β := β) (γ := γ) (xr := xr) c
  have g_tuple := c.bAt 13 (x := "tuple") rfl
  refine ⟨f, fd, g0, Fd, FnG.ofM Fd sc_low_corners rfl fun cdv A outer s H F0 E hr hgd tk hp => ?_⟩
  have hu := hr.units
  have hu2 : _ + 200 < cLine := L2Room_units200 hr
  exact (rss_one (rs_ret (re_fr (re_tuple (re_pk (rx_fz (rx_lc rfl sc_low_corners.nd (ri_seq (rx_fz (rx_call G_face_corners (hr.mono (by decide)) hgd (pb_face_corners_0 F_face_corners) tk rfl g_face_corners F_face_corners.kp (ra_cons (re_var (pv 1)) ra_nil)))) (own := [("v", 2)]) (blkOk_by (by kernel_rfl)) (fun _ _ _ _ _ => (rg_name (vs := [2]) (pg_name sc_low_corners.nd (i := 2) rfl (by first | exact Or.inl rfl | exact Or.inr rfl)))) (fun _ _ _ _ _ => (rts_one (rt_eq hu (re_andB (re_ixN (pv 0) (re_var (pv 2))) (re_ixN (pv 1) re_int)) re_int))) (fun _ _ _ _ _ => (re_var (pv 2)))))) rfl g_tuple))))
theorem sc_high_corners : FnScope ["arrows", "face", "v"] ["arrows", "face"] (defScope (top 7)) := ⟨rfl, rfl, rfl, by decide +kernel, rfl, by decide +kernel, by decide +kernel⟩
theorem ok_high_corners (c : Facts top tab bl gi K mg) : DfOk P w K mg base 3 "high_corners" (top 7) ["arrows", "face"] β γ xr 2 f_high_corners := by
  obtain ⟨f, fd, g0, Fd⟩ := c.dAt 5 (p := ("high_corners", 7)) rfl
  obtain ⟨f_face_corners', fd_face_corners, g_face_corners, F_face_corners, G_face_corners⟩ := ok_face_corners (P := P) (w := w) (base := base) (β := β) (γ := γ) (xr := xr) c
  have g_tuple := c.bAt 13 (x := "tuple") rfl
  refine ⟨f, fd, g0, Fd, FnG.ofM Fd sc_high_corners rfl fun cdv A outer s H F0 E hr hgd tk hp => ?_⟩
  have hu := hr.units
  have hu2 : _ + 200 < cLine := L2Room_units200 hr
  exact (rss_one (rs_ret (re_fr (re_tuple (re_pk (rx_fz (rx_lc rfl sc_high_corners.nd (ri_seq (rx_fz (rx_call G_face_corners (hr.mono (by decide)) hgd (pb_face_corners_0 F_face_corners) tk rfl g_face_corners F_face_corners.kp (ra_cons (re_var (pv 1)) ra_nil)))) (own := [("v", 2)]) (blkOk_by (by kernel_rfl)) (fun _ _ _ _ _ => (rg_name (vs := [2]) (pg_name sc_high_corners.nd (i := 2) rfl (by first | exact Or.inl rfl | exact Or.inr rfl)))) (fun _ _ _ _ _ => (rts_one (rt_eq hu (re_andB (re_ixN (pv 0) (re_var (pv 2))) (re_ixN (pv 1) re_int)) (re_ixN (pv 1) re_int)))) (fun _ _ _ _ _ => (re_var (pv 2)))))) rfl g_tuple))))
theorem sc_corner_named : FnScope ["cube", "face", "ways", "v"] ["cube", "face", "ways"] (defScope (top 12)) := ⟨rfl, rfl, rfl, by decide +kernel, rfl, by decide +kernel, by decide +kernel⟩
theorem ok_corner_named (c : Facts top tab bl gi K mg) : DfOk P w K mg base 3 "corner_named" (top 12) ["cube", "face", "ways"] β γ xr 3 f_corner_named := by
  obtain ⟨f, fd, g0, Fd⟩ := c.dAt 6 (p := ("corner_named", 12)) rfl
  obtain ⟨f_face_corners', fd_face_corners, g_face_corners, F_face_corners, G_face_corners⟩ := ok_face_corners (P := P) (w := w) (base := base) (β := β) (γ := γ) (xr := xr) c
  refine ⟨f, fd, g0, Fd, FnG.ofM Fd sc_corner_named rfl fun cdv A outer s H F0 E hr hgd tk hp => ?_⟩
  have hu := hr.units
  have hu2 : _ + 200 < cLine := L2Room_units200 hr
  exact (rss_cons (rs_if (rt_ne hu (re_andB (re_var (pv 2)) (re_inv (re_ixN (pv 1) re_int))) re_int) (rss_one rs_never) rss_nil) (rss_one (rs_ret (re_fr (re_ix (rx_fz (rx_lc rfl sc_corner_named.nd (ri_seq (rx_fz (rx_call G_face_corners (hr.mono (by decide)) hgd (pb_face_corners_0 F_face_corners) tk rfl g_face_corners F_face_corners.kp (ra_cons (re_var (pv 1)) ra_nil)))) (own := [("v", 3)]) (blkOk_by (by kernel_rfl)) (fun _ _ _ _ _ => (rg_name (vs := [3]) (pg_name sc_corner_named.nd (i := 3) rfl (by first | exact Or.inl rfl | exact Or.inr rfl)))) (fun _ _ _ _ _ => (rts_one (rt_eq hu (re_andB (re_ixN (pv 0) (re_var (pv 3))) (re_ixN (pv 1) re_int)) (re_var (pv 2))))) (fun _ _ _ _ _ => (re_var (pv 3))))) re_int)))))
theorem sc_leaving_counts : FnScope ["cube", "face", "found", "v", "many"] ["cube", "face"] (defScope (top 13)) := ⟨rfl, rfl, rfl, by decide +kernel, rfl, by decide +kernel, by decide +kernel⟩
theorem ok_leaving_counts (c : Facts top tab bl gi K mg) : DfOk P w K mg base 3 "leaving_counts" (top 13) ["cube", "face"] β γ xr 2 f_leaving_counts := by
  obtain ⟨f, fd, g0, Fd⟩ := c.dAt 7 (p := ("leaving_counts", 13)) rfl
  obtain ⟨f_bits_number', fd_bits_number, g_bits_number, F_bits_number, G_bits_number⟩ := ok_bits_number (P := P) (w := w) (base := base) (β := β) (γ := γ) (xr := xr) c
  obtain ⟨f_face_corners', fd_face_corners, g_face_corners, F_face_corners, G_face_corners⟩ := ok_face_corners (P := P) (w := w) (base := base) (β := β) (γ := γ) (xr := xr) c
  have g_tuple := c.bAt 13 (x := "tuple") rfl
  refine ⟨f, fd, g0, Fd, FnG.ofM Fd sc_leaving_counts rfl fun cdv A outer s H F0 E hr hgd tk hp => ?_⟩
  have hu := hr.units
  have hu2 : _ + 200 < cLine := L2Room_units200 hr
  exact (rss_cons (rs_asg (ps_set (i := 2) sc_leaving_counts.nd rfl (Or.inl rfl) (rx_mul (rx_fz (rx_lst (ra_cons re_int ra_nil))) (rx_fz (rx_add (rx_fz (rx_call G_bits_number (hr.mono (by decide)) hgd (pb_bits_number_0 F_bits_number) tk rfl g_bits_number F_bits_number.kp (ra_cons (re_ixN (pv 1) re_int) ra_nil))) re_int))))) (rss_cons (rs_for hp rfl (ri_seq (rx_fz (rx_call G_face_corners (hr.mono (by decide)) hgd (pb_face_corners_0 F_face_corners) tk rfl g_face_corners F_face_corners.kp (ra_cons (re_var (pv 1)) ra_nil)))) (rg_name (vs := [3]) (pg_name sc_leaving_counts.nd (i := 3) rfl (by first | exact Or.inl rfl | exact Or.inr rfl))) (rss_cons (rs_asg (ps_set (i := 4) sc_leaving_counts.nd rfl (Or.inl rfl) (rx_call G_bits_number (hr.mono (by decide)) hgd (pb_bits_number_0 F_bits_number) tk rfl g_bits_number F_bits_number.kp (ra_cons (re_andB (re_ixN (pv 0) (re_var (pv 3))) (re_ixN (pv 1) re_int)) ra_nil)))) (rss_one (rs_setI (ps_asg (rx_fz (rx_add (re_ixN (pv 2) (re_var (pv 4))) re_int)) (pg_sub (pv 2) (re_var (pv 4)) set_list)))))) (rss_one (rs_ret (re_fr (re_tuple (rp_var (pv 2)) rfl g_tuple))))))
theorem sc_low_of : FnScope ["cube", "face"] ["cube", "face"] (defScope (top 14)) := ⟨rfl, rfl, rfl, by decide +kernel, rfl, by decide +kernel, by decide +kernel⟩
theorem ok_low_of (c : Facts top tab bl gi K mg) : DfOk P w K mg base 4 "low_of" (top 14) ["cube", "face"] β γ xr 2 f_low_of := by
  obtain ⟨f, fd, g0, Fd⟩ := c.dAt 8 (p := ("low_of", 14)) rfl
  obtain ⟨f_corner_named', fd_corner_named, g_corner_named, F_corner_named, G_corner_named⟩ := ok_corner_named (P := P) (w := w) (base := base) (β := β) (γ := γ) (xr := xr) c
  refine ⟨f, fd, g0, Fd, FnG.ofM Fd sc_low_of rfl fun cdv A outer s H F0 E hr hgd tk hp => ?_⟩
  have hu := hr.units
  have hu2 : _ + 200 < cLine := L2Room_units200 hr
  exact (rss_one (rs_ret (rx_call G_corner_named (hr.mono (by decide)) hgd (pb_corner_named_0 F_corner_named) tk rfl g_corner_named F_corner_named.kp (ra_cons (re_var (pv 0)) (ra_cons (re_var (pv 1)) (ra_cons re_int ra_nil))))))
theorem sc_high_of : FnScope ["cube", "face"] ["cube", "face"] (defScope (top 15)) := ⟨rfl, rfl, rfl, by decide +kernel, rfl, by decide +kernel, by decide +kernel⟩
theorem ok_high_of (c : Facts top tab bl gi K mg) : DfOk P w K mg base 4 "high_of" (top 15) ["cube", "face"] β γ xr 2 f_high_of := by
  obtain ⟨f, fd, g0, Fd⟩ := c.dAt 9 (p := ("high_of", 15)) rfl
  obtain ⟨f_corner_named', fd_corner_named, g_corner_named, F_corner_named, G_corner_named⟩ := ok_corner_named (P := P) (w := w) (base := base) (β := β) (γ := γ) (xr := xr) c
  refine ⟨f, fd, g0, Fd, FnG.ofM Fd sc_high_of rfl fun cdv A outer s H F0 E hr hgd tk hp => ?_⟩
  have hu := hr.units
  have hu2 : _ + 200 < cLine := L2Room_units200 hr
  exact (rss_one (rs_ret (rx_call G_corner_named (hr.mono (by decide)) hgd (pb_corner_named_0 F_corner_named) tk rfl g_corner_named F_corner_named.kp (ra_cons (re_var (pv 0)) (ra_cons (re_var (pv 1)) (ra_cons (re_ixN (pv 1) re_int) ra_nil))))))
theorem sc_lows_had : FnScope ["cube", "n", "ways"] ["cube"] (defScope (top 16)) := ⟨rfl, rfl, rfl, by decide +kernel, rfl, by decide +kernel, by decide +kernel⟩
theorem ok_lows_had (c : Facts top tab bl gi K mg) : DfOk P w K mg base 2 "lows_had" (top 16) ["cube"] β γ xr 1 f_lows_had := by
  obtain ⟨f, fd, g0, Fd⟩ := c.dAt 10 (p := ("lows_had", 16)) rfl
  obtain ⟨f_ways_number', fd_ways_number, g_ways_number, F_ways_number, G_ways_number⟩ := ok_ways_number (P := P) (w := w) (base := base) (β := β) (γ := γ) (xr := xr) c
  obtain ⟨f_bits_number', fd_bits_number, g_bits_number, F_bits_number, G_bits_number⟩ := ok_bits_number (P := P) (w := w) (base := base) (β := β) (γ := γ) (xr := xr) c
  have g_tuple := c.bAt 13 (x := "tuple") rfl
  refine ⟨f, fd, g0, Fd, FnG.ofM Fd sc_lows_had rfl fun cdv A outer s H F0 E hr hgd tk hp => ?_⟩
  have hu := hr.units
  have hu2 : _ + 200 < cLine := L2Room_units200 hr
  exact (rss_cons (rs_asg (ps_set (i := 1) sc_lows_had.nd rfl (Or.inr rfl) (rx_call G_ways_number (hr.mono (by decide)) hgd (pb_ways_number_0 F_ways_number) tk rfl g_ways_number F_ways_number.kp (ra_cons (re_var (pv 0)) ra_nil)))) (rss_one (rs_ret (re_fr (re_tuple (re_pk (rx_fz (rx_lc rfl sc_lows_had.nd (ri_seq (re_var (pv 0))) (own := [("ways", 2)]) (blkOk_by (by kernel_rfl)) (fun _ _ _ _ _ => (rg_name (vs := [2]) (pg_name sc_lows_had.nd (i := 2) rfl (by first | exact Or.inl rfl | exact Or.inr rfl)))) (fun _ _ _ _ _ => rts_nil) (fun _ _ _ _ _ => (re_shl re_int (re_sub (re_var (pv 1)) (rx_fz (rx_call G_bits_number (hr.mono (by decide)) hgd (pb_bits_number_0 F_bits_number) takesF rfl g_bits_number F_bits_number.kp (ra_cons (re_var (pv 2)) ra_nil))))))))) rfl g_tuple)))))
theorem sc__law_bag : FnScope ["script", "cell", "cells", "mixed"] ["script"] (defScope (top 18)) := ⟨rfl, rfl, rfl, by decide +kernel, rfl, by decide +kernel, by decide +kernel⟩
theorem ok__law_bag (c : Facts top tab bl gi K mg) : DfOk P w K mg base 1 "_law_bag" (top 18) ["script"] β γ xr 1 f__law_bag := by
  obtain ⟨f, fd, g0, Fd⟩ := c.dAt 11 (p := ("_law_bag", 18)) rfl
  have g_abs := c.bAt 1 (x := "abs") rfl
  have g_int := c.bAt 4 (x := "int") rfl
  have g_len := c.bAt 5 (x := "len") rfl
  have g_list := c.bAt 6 (x := "list") rfl
  have g_reversed := c.bAt 9 (x := "reversed") rfl
  refine ⟨f, fd, g0, Fd, FnG.ofM Fd sc__law_bag rfl fun cdv A outer s H F0 E hr hgd tk hp => ?_⟩
  have hu := hr.units
  have hu2 : _ + 200 < cLine := L2Room_units200 hr
  exact (rss_cons (rs_lc (i := 2) rfl sc__law_bag.nd rfl rfl (sw_true rfl rfl rfl (by kernel_rfl)) (ri_seq (rx_fz (rx_scrSl (pv 0)))) (own := [("cell", 1)]) (blkOk_by (by kernel_rfl)) (fun _ _ _ _ _ => (rg_name (vs := [1]) (pg_name sc__law_bag.nd (i := 1) rfl (by first | exact Or.inl rfl | exact Or.inr rfl)))) (fun _ _ _ _ _ => rts_nil) (fun _ _ _ _ _ => (re_mod (re_intc (re_pk (re_abs (rp_var (pv 1)) rfl g_abs)) rfl g_int) (re_pow re_int re_int)))) (rss_cons (rs_asg (ps_set (i := 3) sc__law_bag.nd rfl (Or.inl rfl) (rx_add re_int (re_len (rp_var (pv 2)) rfl g_len)))) (rss_cons (rs_for hp rfl (ri_seq (rx_fz (rx_scrSl (pv 0)))) (rg_name (vs := [1]) (pg_name sc__law_bag.nd (i := 1) rfl (by first | exact Or.inl rfl | exact Or.inr rfl))) (rss_one (rs_asg (ps_set (i := 3) sc__law_bag.nd rfl (Or.inl rfl) (re_fr (re_mod (rx_fz (rx_add (rx_fz (rx_add (rx_fz (rx_mul (re_var (pv 3)) re_int)) (re_mod (re_intc (rp_var (pv 1)) rfl g_int) re_int))) re_int)) re_int)))))) (rss_one (rs_ret (rx_lst (ra_cons (rx_fz (rx_lrev rfl (rx_fz (rx_list (rp_var (pv 2)) rfl g_list)) rfl g_list rfl g_reversed)) (ra_cons re_int (ra_cons (re_var (pv 3)) ra_nil)))))))))
theorem sc__law_draw : FnScope ["bag", "below", "cell", "found"] ["bag", "below"] (defScope (top 19)) := ⟨rfl, rfl, rfl, by decide +kernel, rfl, by decide +kernel, by decide +kernel⟩
theorem ok__law_draw (c : Facts top tab bl gi K mg) : DfOk P w K mg base 1 "_law_draw" (top 19) ["bag", "below"] β γ xr 2 f__law_draw := by
  obtain ⟨f, fd, g0, Fd⟩ := c.dAt 12 (p := ("_law_draw", 19)) rfl
  have g_int := c.bAt 4 (x := "int") rfl
  refine ⟨f, fd, g0, Fd, FnG.ofM Fd sc__law_draw rfl fun cdv A outer s H F0 E hr hgd tk hp => ?_⟩
  have hu := hr.units
  have hu2 : _ + 200 < cLine := L2Room_units200 hr
  exact (rss_cons (rs_while 100 hp (RW.pt (rw_and (rt_eq hu (re_cur (pv 0)) re_int) (rw_and1 (rt_more hu (pv 0))))) (rss_cons (rs_asg (ps_set (i := 2) sc__law_draw.nd rfl (Or.inl rfl) (re_fr (re_bagPop (pe_bm0 PySem.F.plainAttrs_list PySem.F.slot_list_pop PySem.F.type_list_pop mt_pop (pe_bg (pv 0))))))) (rss_one (rs_setCur (ps_asg (rx_fz (rx_if (rt_gt (re_var (pv 2)) (re_pow re_int re_int)) (re_fr (re_var (pv 2))) (re_fr re_int))) (pg_sub (pv 0) pe_int set_list)))))) (rss_cons (rs_if (rt_gt (re_cur (pv 0)) re_int) (rss_cons (rs_asg (ps_set (i := 3) sc__law_draw.nd rfl (Or.inl rfl) (re_fr (re_mod (re_intc (re_pk (re_cur (pv 0))) rfl g_int) (re_var (pv 1)))))) (rss_cons (rs_setCur (ps_asg (re_fdiv (re_cur (pv 0)) (re_var (pv 1))) (pg_sub (pv 0) pe_int set_list))) (rss_one (rs_retN (pv 3))))) rss_nil) (rss_cons (rs_setMix (ps_asg (re_mod (rx_fz (rx_add (rx_fz (rx_mul (re_mix (pv 0)) re_int)) re_int)) re_int) (pg_sub (pv 0) pe_int set_list))) (rss_one (rs_ret (re_fr (re_mod (re_fdiv (re_mod (re_intc (re_pk (rx_fz (rx_mul (re_mix (pv 0)) (re_mix (pv 0))))) rfl g_int) re_int) re_int) (re_var (pv 1)))))))))
theorem sc__law_pick : FnScope ["bag", "some"] ["bag", "some"] (defScope (top 20)) := ⟨rfl, rfl, rfl, by decide +kernel, rfl, by decide +kernel, by decide +kernel⟩
theorem ok__law_pick (c : Facts top tab bl gi K mg) : DfOk P w K mg base 2 "_law_pick" (top 20) ["bag", "some"] β γ xr 2 f__law_pick := by
  obtain ⟨f, fd, g0, Fd⟩ := c.dAt 13 (p := ("_law_pick", 20)) rfl
  obtain ⟨f__law_draw', fd__law_draw, g__law_draw, F__law_draw, G__law_draw⟩ := ok__law_draw (P := P) (w := w) (base := base) (β := β) (γ := γ) (xr := xr) c
  have g_len := c.bAt 5 (x := "len") rfl
  refine ⟨f, fd, g0, Fd, FnG.ofM Fd sc__law_pick rfl fun cdv A outer s H F0 E hr hgd tk hp => ?_⟩
  have hu := hr.units
  have hu2 : _ + 200 < cLine := L2Room_units200 hr
  exact (rss_one (rs_ret (re_fr (re_ixN (pv 1) (rx_fz (rx_call G__law_draw (hr.mono (by decide)) hgd (pb__law_draw_0 F__law_draw) tk rfl g__law_draw F__law_draw.kp (ra_cons (re_var (pv 0)) (ra_cons (re_len (rp_var (pv 1)) rfl g_len) ra_nil))))))))
theorem sc__law_same : FnScope ["told", "due"] ["told", "due"] (defScope (top 21)) := ⟨rfl, rfl, rfl, by decide +kernel, rfl, by decide +kernel, by decide +kernel⟩
theorem ok__law_same (c : Facts top tab bl gi K mg) : DfOk P w K mg base 1 "_law_same" (top 21) ["told", "due"] β γ xr 2 f__law_same := by
  obtain ⟨f, fd, g0, Fd⟩ := c.dAt 14 (p := ("_law_same", 21)) rfl
  have g_repr := c.bAt 8 (x := "repr") rfl
  refine ⟨f, fd, g0, Fd, FnG.ofM Fd sc__law_same rfl fun cdv A outer s H F0 E hr hgd tk hp => ?_⟩
  have hu := hr.units
  have hu2 : _ + 200 < cLine := L2Room_units200 hr
  exact (rss_one (rs_ret (re_fr (re_and (re_eq hu (re_repr hu2 hgd (rp_var (pv 0)) rfl g_repr) (re_repr hu2 hgd (rp_var (pv 1)) rfl g_repr)) (re_one (re_eq hu (re_var (pv 0)) (re_var (pv 1))))))))
theorem sc__law_size : FnScope ["bag", "way"] ["bag"] (defScope (top 22)) := ⟨rfl, rfl, rfl, by decide +kernel, rfl, by decide +kernel, by decide +kernel⟩
theorem ok__law_size (c : Facts top tab bl gi K mg) : DfOk P w K mg base 2 "_law_size" (top 22) ["bag"] β γ xr 1 f__law_size := by
  obtain ⟨f, fd, g0, Fd⟩ := c.dAt 15 (p := ("_law_size", 22)) rfl
  obtain ⟨f__law_draw', fd__law_draw, g__law_draw, F__law_draw, G__law_draw⟩ := ok__law_draw (P := P) (w := w) (base := base) (β := β) (γ := γ) (xr := xr) c
  refine ⟨f, fd, g0, Fd, FnG.ofM Fd sc__law_size rfl fun cdv A outer s H F0 E hr hgd tk hp => ?_⟩
  have hu := hr.units
  have hu2 : _ + 200 < cLine := L2Room_units200 hr
  exact (rss_cons (rs_asg (ps_set (i := 1) sc__law_size.nd rfl (Or.inl rfl) (rx_call G__law_draw (hr.mono (by decide)) hgd (pb__law_draw_0 F__law_draw) tk rfl g__law_draw F__law_draw.kp (ra_cons (re_var (pv 0)) (ra_cons re_int ra_nil))))) (rss_cons (rs_if (rt_lt (re_var (pv 1)) re_int) (rss_one (rs_ret (re_fr (re_ix (rx_fz (rx_lst (ra_cons re_int (ra_cons re_int (ra_cons re_int (ra_cons re_int (ra_cons re_int (ra_cons re_int ra_nil)))))))) (re_var (pv 1)))))) rss_nil) (rss_one (rs_ret (rx_if (rt_lt (re_var (pv 1)) re_int) (re_fr re_int) (rx_if (rt_lt (re_var (pv 1)) re_int) (re_fr re_int) (re_fr re_int)))))))
theorem sc__law_order : FnScope ["bag", "n", "step", "i", "rest", "found", "turn"] ["bag", "n"] (defScope (top 23)) := ⟨rfl, rfl, rfl, by decide +kernel, rfl, by decide +kernel, by decide +kernel⟩
theorem ok__law_order (c : Facts top tab bl gi K mg) : DfOk P w K mg base 2 "_law_order" (top 23) ["bag", "n"] β γ xr 2 f__law_order := by
  obtain ⟨f, fd, g0, Fd⟩ := c.dAt 16 (p := ("_law_order", 23)) rfl
  obtain ⟨f__law_draw', fd__law_draw, g__law_draw, F__law_draw, G__law_draw⟩ := ok__law_draw (P := P) (w := w) (base := base) (β := β) (γ := γ) (xr := xr) c
  have g_range := c.bAt 7 (x := "range") rfl
  have g_int := c.bAt 4 (x := "int") rfl
  have g_tuple := c.bAt 13 (x := "tuple") rfl
  have g_list := c.bAt 6 (x := "list") rfl
  have g_len := c.bAt 5 (x := "len") rfl
  refine ⟨f, fd, g0, Fd, FnG.ofM Fd sc__law_order rfl fun cdv A outer s H F0 E hr hgd tk hp => ?_⟩
  have hu := hr.units
  have hu2 : _ + 200 < cLine := L2Room_units200 hr
  exact (rss_cons (rs_if (RW.pt (rw_and (rt_gt (re_var (pv 1)) re_int) (rw_and1 (rt_eq hu (rx_fz (rx_call G__law_draw (hr.mono (by decide)) hgd (pb__law_draw_0 F__law_draw) tk rfl g__law_draw F__law_draw.kp (ra_cons (re_var (pv 0)) (ra_cons re_int ra_nil)))) re_int)))) (rss_cons (rs_asg (ps_set (i := 2) sc__law_order.nd rfl (Or.inr rfl) (rx_add re_int (rx_fz (rx_call G__law_draw (hr.mono (by decide)) hgd (pb__law_draw_0 F__law_draw) tk rfl g__law_draw F__law_draw.kp (ra_cons (re_var (pv 0)) (ra_cons (re_var (pv 1)) ra_nil))))))) (rss_one (rs_ret (re_fr (re_tuple (re_pk (rx_fz (rx_lc rfl sc__law_order.nd (ri_rg1 (ra_cons (re_var (pv 1)) ra_nil) rfl g_range) (own := [("i", 3)]) (blkOk_by (by kernel_rfl)) (fun _ _ _ _ _ => (rg_name (vs := [3]) (pg_name sc__law_order.nd (i := 3) rfl (by first | exact Or.inl rfl | exact Or.inr rfl)))) (fun _ _ _ _ _ => rts_nil) (fun _ _ _ _ _ => (re_mod (re_intc (re_pk (rx_fz (rx_add (re_var (pv 3)) (re_var (pv 2))))) rfl g_int) (re_var (pv 1))))))) rfl g_tuple))))) rss_nil) (rss_cons (rs_par2 (cons_len (cons_len nil_len)) (ps_par (i := 4) (j := 5) rfl sc__law_order.nd rfl rfl (by decide) rfl rfl (rr_cons (rx_lrg rfl (re_var (pv 1)) rfl g_list rfl g_range) (rr_cons (rx_lst ra_nil) rr_nil)) (by kernel_rfl))) (rss_cons (rs_for hp rfl (ri_rg1 (ra_cons (re_var (pv 1)) ra_nil) rfl g_range) (rg_name (vs := [6]) (pg_name sc__law_order.nd (i := 6) rfl (by first | exact Or.inl rfl | exact Or.inr rfl))) (rss_one (rs_drop (ps_expr (re_append (pe_bm PySem.F.plainAttrs_list PySem.F.slot_list_append PySem.F.type_list_append mt_append (pv 5) (ra_cons (re_popAt (pe_bm PySem.F.plainAttrs_list PySem.F.slot_list_pop PySem.F.type_list_pop mt_popAt (pv 4) (ra_cons (rx_fz (rx_call G__law_draw (hr.mono (by decide)) hgd (pb__law_draw_0 F__law_draw) tk rfl g__law_draw F__law_draw.kp (ra_cons (re_var (pv 0)) (ra_cons (re_len (rp_var (pv 4)) rfl g_len) ra_nil)))) ra_nil))) ra_nil))))))) (rss_one (rs_ret (re_fr (re_tuple (rp_var (pv 5)) rfl g_tuple)))))))
theorem sc__law_ordered : FnScope ["arrows", "order", "table", "found", "way", "some", "v"] ["arrows", "order"] (defScope (top 24)) := ⟨rfl, rfl, rfl, by decide +kernel, rfl, by decide +kernel, by decide +kernel⟩
theorem ok__law_ordered (c : Facts top tab bl gi K mg) : DfOk P w K mg base 1 "_law_ordered" (top 24) ["arrows", "order"] β γ xr 2 f__law_ordered := by
  obtain ⟨f, fd, g0, Fd⟩ := c.dAt 17 (p := ("_law_ordered", 24)) rfl
  have g_len := c.bAt 5 (x := "len") rfl
  have g_enumerate := c.bAt 3 (x := "enumerate") rfl
  have g_tuple := c.bAt 13 (x := "tuple") rfl
  refine ⟨f, fd, g0, Fd, FnG.ofM Fd sc__law_ordered rfl fun cdv A outer s H F0 E hr hgd tk hp => ?_⟩
  have hu := hr.units
  have hu2 : _ + 200 < cLine := L2Room_units200 hr
  exact (rss_cons (rs_par2 (cons_len (cons_len nil_len)) (ps_par (i := 2) (j := 3) rfl sc__law_ordered.nd rfl rfl (by decide) rfl rfl (rr_cons (rx_lst (ra_cons re_int ra_nil)) (rr_cons (rx_mul (rx_fz (rx_lst (ra_cons re_int ra_nil))) (re_len (rp_var (pv 0)) rfl g_len)) rr_nil)) (by kernel_rfl))) (rss_cons (rs_for hp rfl (ri_seq (re_var (pv 1))) (rg_name (vs := [4]) (pg_name sc__law_ordered.nd (i := 4) rfl (by first | exact Or.inl rfl | exact Or.inr rfl))) (rss_one (rs_asg (ps_set (i := 2) sc__law_ordered.nd rfl (Or.inl rfl) (rx_add (re_var (pv 2)) (rx_fz (rx_lc rfl sc__law_ordered.nd (ri_seq (re_var (pv 2))) (own := [("some", 5)]) (blkOk_by (by kernel_rfl)) (fun _ _ _ _ _ => (rg_name (vs := [5]) (pg_name sc__law_ordered.nd (i := 5) rfl (by first | exact Or.inl rfl | exact Or.inr rfl)))) (fun _ _ _ _ _ => rts_nil) (fun _ _ _ _ _ => (re_orB (re_var (pv 5)) (re_shl re_int (re_var (pv 4)))))))))))) (rss_cons (rs_for hp rfl (ri_enum2 (ra_cons (re_var (pv 0)) ra_nil) rfl g_enumerate) (rg_tup rfl (rgs_cons (rg_name (vs := [6, 5]) (pg_name sc__law_ordered.nd (i := 6) rfl (by first | exact Or.inl rfl | exact Or.inr rfl))) (rgs_cons (rg_name (vs := [6, 5]) (pg_name sc__law_ordered.nd (i := 5) rfl (by first | exact Or.inl rfl | exact Or.inr rfl))) rgs_nil))) (rss_one (rs_setI (ps_asg (re_ixN (pv 2) (re_var (pv 5))) (pg_sub (pv 3) (re_ixN (pv 2) (re_var (pv 6))) set_list))))) (rss_one (rs_ret (re_fr (re_tuple (rp_var (pv 3)) rfl g_tuple)))))))
theorem sc__law_moved : FnScope ["arrows", "order", "corner", "found", "v"] ["arrows", "order", "corner"] (defScope (top 25)) := ⟨rfl, rfl, rfl, by decide +kernel, rfl, by decide +kernel, by decide +kernel⟩
theorem ok__law_moved (c : Facts top tab bl gi K mg) : DfOk P w K mg base 2 "_law_moved" (top 25) ["arrows", "order", "corner"] β γ xr 3 f__law_moved := by
  obtain ⟨f, fd, g0, Fd⟩ := c.dAt 18 (p := ("_law_moved", 25)) rfl
  obtain ⟨f__law_ordered', fd__law_ordered, g__law_ordered, F__law_ordered, G__law_ordered⟩ := ok__law_ordered (P := P) (w := w) (base := base) (β := β) (γ := γ) (xr := xr) c
  have g_len := c.bAt 5 (x := "len") rfl
  have g_range := c.bAt 7 (x := "range") rfl
  have g_tuple := c.bAt 13 (x := "tuple") rfl
  refine ⟨f, fd, g0, Fd, FnG.ofM Fd sc__law_moved rfl fun cdv A outer s H F0 E hr hgd tk hp => ?_⟩
  have hu := hr.units
  have hu2 : _ + 200 < cLine := L2Room_units200 hr
  exact (rss_cons (rs_asg (ps_set (i := 3) sc__law_moved.nd rfl (Or.inr rfl) (rx_call G__law_ordered (hr.mono (by decide)) hgd (pb__law_ordered_0 F__law_ordered) tk rfl g__law_ordered F__law_ordered.kp (ra_cons (re_var (pv 0)) (ra_cons (re_var (pv 1)) ra_nil))))) (rss_one (rs_ret (re_fr (re_tuple (re_pk (rx_fz (rx_lc rfl sc__law_moved.nd (ri_rg1 (ra_cons (re_len (rp_var (pv 3)) rfl g_len) ra_nil) rfl g_range) (own := [("v", 4)]) (blkOk_by (by kernel_rfl)) (fun _ _ _ _ _ => (rg_name (vs := [4]) (pg_name sc__law_moved.nd (i := 4) rfl (by first | exact Or.inl rfl | exact Or.inr rfl)))) (fun _ _ _ _ _ => rts_nil) (fun _ _ _ _ _ => (re_ixN (pv 3) (re_xor (re_var (pv 4)) (re_var (pv 2)))))))) rfl g_tuple)))))
theorem sc__law_merged : FnScope ["marks", "pairs", "found", "v", "w", "kept", "gone", "mark"] ["marks", "pairs"] (defScope (top 26)) := ⟨rfl, rfl, rfl, by decide +kernel, rfl, by decide +kernel, by decide +kernel⟩
theorem ok__law_merged (c : Facts top tab bl gi K mg) : DfOk P w K mg base 1 "_law_merged" (top 26) ["marks", "pairs"] β γ xr 2 f__law_merged := by
  obtain ⟨f, fd, g0, Fd⟩ := c.dAt 19 (p := ("_law_merged", 26)) rfl
  have g_list := c.bAt 6 (x := "list") rfl
  refine ⟨f, fd, g0, Fd, FnG.ofM Fd sc__law_merged rfl fun cdv A outer s H F0 E hr hgd tk hp => ?_⟩
  have hu := hr.units
  have hu2 : _ + 200 < cLine := L2Room_units200 hr
  exact (rss_cons (rs_asg (ps_set (i := 2) sc__law_merged.nd rfl (Or.inl rfl) (rx_list (rp_var (pv 0)) rfl g_list))) (rss_cons (rs_for hp rfl (ri_seq (re_var (pv 1))) (rg_tup rfl (rgs_cons (rg_name (vs := [3, 4]) (pg_name sc__law_merged.nd (i := 3) rfl (by first | exact Or.inl rfl | exact Or.inr rfl))) (rgs_cons (rg_name (vs := [3, 4]) (pg_name sc__law_merged.nd (i := 4) rfl (by first | exact Or.inl rfl | exact Or.inr rfl))) rgs_nil))) (rss_cons (rs_parT (cons_len (cons_len nil_len)) (by decide) (ps_asg (pe_tup (rr_cons (re_fr (re_ixN (pv 2) (re_var (pv 3)))) (rr_cons (re_fr (re_ixN (pv 2) (re_var (pv 4)))) rr_nil))) (pg_tup rfl (pgs_cons (pg_name sc__law_merged.nd (i := 5) rfl (by first | exact Or.inl rfl | exact Or.inr rfl)) (pgs_cons (pg_name sc__law_merged.nd (i := 6) rfl (by first | exact Or.inl rfl | exact Or.inr rfl)) pgs_nil))))) (rss_one (rs_if (rt_ne hu (re_var (pv 5)) (re_var (pv 6))) (rss_one (rs_lc (i := 2) rfl sc__law_merged.nd rfl rfl (sw_true rfl rfl rfl (by kernel_rfl)) (ri_seq (re_var (pv 2))) (own := [("mark", 7)]) (blkOk_by (by kernel_rfl)) (fun _ _ _ _ _ => (rg_name (vs := [7]) (pg_name sc__law_merged.nd (i := 7) rfl (by first | exact Or.inl rfl | exact Or.inr rfl)))) (fun _ _ _ _ _ => rts_nil) (fun _ _ _ _ _ => (rx_fz (rx_if (rt_eq hu (re_var (pv 7)) (re_var (pv 6))) (re_fr (re_var (pv 5))) (re_fr (re_var (pv 7)))))))) rss_nil)))) (rss_one (rs_retN (pv 2)))))
theorem sc__law_tied : FnScope ["below", "above", "found", "v", "w"] ["below", "above"] (defScope (top 27)) := ⟨rfl, rfl, rfl, by decide +kernel, rfl, by decide +kernel, by decide +kernel⟩
theorem ok__law_tied (c : Facts top tab bl gi K mg) : DfOk P w K mg base 1 "_law_tied" (top 27) ["below", "above"] β γ xr 2 f__law_tied := by
  obtain ⟨f, fd, g0, Fd⟩ := c.dAt 20 (p := ("_law_tied", 27)) rfl
  have g_len := c.bAt 5 (x := "len") rfl
  have g_range := c.bAt 7 (x := "range") rfl
  refine ⟨f, fd, g0, Fd, FnG.ofM Fd sc__law_tied rfl fun cdv A outer s H F0 E hr hgd tk hp => ?_⟩
  have hu := hr.units
  have hu2 : _ + 200 < cLine := L2Room_units200 hr
  exact (rss_cons (rs_asg (ps_set (i := 2) sc__law_tied.nd rfl (Or.inl rfl) (rx_lst ra_nil))) (rss_cons (rs_for hp rfl (ri_rg1 (ra_cons (re_len (rp_var (pv 0)) rfl g_len) ra_nil) rfl g_range) (rg_name (vs := [3]) (pg_name sc__law_tied.nd (i := 3) rfl (by first | exact Or.inl rfl | exact Or.inr rfl))) (rss_one (rs_for hp rfl (ri_rg2 (ra_cons (rx_fz (rx_add (re_var (pv 3)) re_int)) (ra_cons (re_len (rp_var (pv 0)) rfl g_len) ra_nil)) rfl g_range) (rg_name (vs := [4]) (pg_name sc__law_tied.nd (i := 4) rfl (by first | exact Or.inl rfl | exact Or.inr rfl))) (rss_one (rs_if (RW.pt (rw_or (rt_eq hu (re_andB (re_xor (re_var (pv 3)) (re_var (pv 4))) (re_xor (re_ixN (pv 0) (re_var (pv 3))) (re_ixN (pv 1) (re_var (pv 4))))) re_int) (rw_or1 (rt_eq hu (re_andB (re_xor (re_var (pv 3)) (re_var (pv 4))) (re_xor (re_ixN (pv 0) (re_var (pv 4))) (re_ixN (pv 1) (re_var (pv 3))))) re_int)))) (rss_one (rs_drop (ps_expr (re_append (pe_bm PySem.F.plainAttrs_list PySem.F.slot_list_append PySem.F.type_list_append mt_append (pv 2) (ra_cons (re_tup (ra_cons (re_var (pv 3)) (ra_cons (re_var (pv 4)) ra_nil))) ra_nil)))))) rss_nil))))) (rss_one (rs_retN (pv 2)))))
theorem sc__law_class_turned : FnScope ["bag", "cube", "n", "bit", "found", "v", "w", "marks", "mark"] ["bag", "cube", "n"] (defScope (top 28)) := ⟨rfl, rfl, rfl, by decide +kernel, rfl, by decide +kernel, by decide +kernel⟩
theorem ok__law_class_turned (c : Facts top tab bl gi K mg) : DfOk P w K mg base 2 "_law_class_turned" (top 28) ["bag", "cube", "n"] β γ xr 3 f__law_class_turned := by
  obtain ⟨f, fd, g0, Fd⟩ := c.dAt 21 (p := ("_law_class_turned", 28)) rfl
  obtain ⟨f__law_draw', fd__law_draw, g__law_draw, F__law_draw, G__law_draw⟩ := ok__law_draw (P := P) (w := w) (base := base) (β := β) (γ := γ) (xr := xr) c
  obtain ⟨f__law_merged', fd__law_merged, g__law_merged, F__law_merged, G__law_merged⟩ := ok__law_merged (P := P) (w := w) (base := base) (β := β) (γ := γ) (xr := xr) c
  have g_len := c.bAt 5 (x := "len") rfl
  have g_range := c.bAt 7 (x := "range") rfl
  have g_list := c.bAt 6 (x := "list") rfl
  have g_tuple := c.bAt 13 (x := "tuple") rfl
  refine ⟨f, fd, g0, Fd, FnG.ofM Fd sc__law_class_turned rfl fun cdv A outer s H F0 E hr hgd tk hp => ?_⟩
  have hu := hr.units
  have hu2 : _ + 200 < cLine := L2Room_units200 hr
  exact (rss_cons (rs_parT (cons_len (cons_len nil_len)) (by decide) (ps_asg (pe_tup (rr_cons (re_fr (re_shl re_int (rx_fz (rx_call G__law_draw (hr.mono (by decide)) hgd (pb__law_draw_0 F__law_draw) tk rfl g__law_draw F__law_draw.kp (ra_cons (re_var (pv 0)) (ra_cons (re_var (pv 2)) ra_nil)))))) (rr_cons (rx_lst ra_nil) rr_nil))) (pg_tup rfl (pgs_cons (pg_name sc__law_class_turned.nd (i := 3) rfl (by first | exact Or.inl rfl | exact Or.inr rfl)) (pgs_cons (pg_name sc__law_class_turned.nd (i := 4) rfl (by first | exact Or.inl rfl | exact Or.inr rfl)) pgs_nil))))) (rss_cons (rs_for hp rfl (ri_rg1 (ra_cons (re_len (rp_var (pv 1)) rfl g_len) ra_nil) rfl g_range) (rg_name (vs := [5]) (pg_name sc__law_class_turned.nd (i := 5) rfl (by first | exact Or.inl rfl | exact Or.inr rfl))) (rss_one (rs_for hp rfl (ri_rg2 (ra_cons (rx_fz (rx_add (re_var (pv 5)) re_int)) (ra_cons (re_len (rp_var (pv 1)) rfl g_len) ra_nil)) rfl g_range) (rg_name (vs := [6]) (pg_name sc__law_class_turned.nd (i := 6) rfl (by first | exact Or.inl rfl | exact Or.inr rfl))) (rss_one (rs_if (rt_eq hu (re_andB (re_xor (re_var (pv 5)) (re_var (pv 6))) (re_xor (re_ixN (pv 1) (re_var (pv 5))) (re_ixN (pv 1) (re_var (pv 6))))) (re_var (pv 3))) (rss_one (rs_drop (ps_expr (re_append (pe_bm PySem.F.plainAttrs_list PySem.F.slot_list_append PySem.F.type_list_append mt_append (pv 4) (ra_cons (re_tup (ra_cons (re_var (pv 5)) (ra_cons (re_var (pv 6)) ra_nil))) ra_nil)))))) rss_nil))))) (rss_cons (rs_asg (ps_set (i := 4) sc__law_class_turned.nd rfl (Or.inl rfl) (rx_add (re_var (pv 4)) (rx_fz (rx_lc rfl sc__law_class_turned.nd (ri_rg1 (ra_cons (re_len (rp_var (pv 1)) rfl g_len) ra_nil) rfl g_range) (own := [("v", 5)]) (blkOk_by (by kernel_rfl)) (fun _ _ _ _ _ => (rg_name (vs := [5]) (pg_name sc__law_class_turned.nd (i := 5) rfl (by first | exact Or.inl rfl | exact Or.inr rfl)))) (fun _ _ _ _ _ => rts_nil) (fun _ _ _ _ _ => (re_tup (ra_cons (re_var (pv 5)) (ra_cons (re_xor (re_var (pv 5)) (re_var (pv 3))) ra_nil))))))))) (rss_cons (rs_asg (ps_set (i := 7) sc__law_class_turned.nd rfl (Or.inr rfl) (rx_call G__law_merged (hr.mono (by decide)) hgd (pb__law_merged_0 F__law_merged) tk rfl g__law_merged F__law_merged.kp (ra_cons (rx_fz (rx_lrg rfl (re_len (rp_var (pv 1)) rfl g_len) rfl g_list rfl g_range)) (ra_cons (re_var (pv 4)) ra_nil))))) (rss_cons (rs_asg (ps_set (i := 8) sc__law_class_turned.nd rfl (Or.inr rfl) (re_fr (re_ixN (pv 7) (rx_fz (rx_call G__law_draw (hr.mono (by decide)) hgd (pb__law_draw_0 F__law_draw) tk rfl g__law_draw F__law_draw.kp (ra_cons (re_var (pv 0)) (ra_cons (re_len (rp_var (pv 1)) rfl g_len) ra_nil)))))))) (rss_one (rs_ret (re_fr (re_tuple (re_pk (rx_fz (rx_lc rfl sc__law_class_turned.nd (ri_rg1 (ra_cons (re_len (rp_var (pv 1)) rfl g_len) ra_nil) rfl g_range) (own := [("v", 5)]) (blkOk_by (by kernel_rfl)) (fun _ _ _ _ _ => (rg_name (vs := [5]) (pg_name sc__law_class_turned.nd (i := 5) rfl (by first | exact Or.inl rfl | exact Or.inr rfl)))) (fun _ _ _ _ _ => rts_nil) (fun _ _ _ _ _ => (rx_fz (rx_if (rt_eq hu (re_ixN (pv 7) (re_var (pv 5))) (re_var (pv 8))) (re_fr (re_xor (re_ixN (pv 1) (re_var (pv 5))) (re_var (pv 3)))) (re_fr (re_ixN (pv 1) (re_var (pv 5)))))))))) rfl g_tuple)))))))))
theorem sc__law_joined : FnScope ["bag", "n", "known", "below", "way", "above", "marks", "mark", "ups", "top", "v", "low"] ["bag", "n"] (defScope (top 29)) := ⟨rfl, rfl, rfl, by decide +kernel, rfl, by decide +kernel, by decide +kernel⟩
theorem okr__law_joined (c : Facts top tab bl gi K mg) : ∀ j, DfOk P w K mg base (2 + j) "_law_joined" (top 29) ["bag", "n"] β γ xr 2 (f__law_joined_k j)
  | 0 => by
    obtain ⟨f, fd, g0, Fd⟩ := c.dAt 22 (p := ("_law_joined", 29)) rfl
    exact ⟨f, fd, g0, Fd, FnG.stuck rfl⟩
  | j + 1 => by
    obtain ⟨f, fd, g0, Fd⟩ := c.dAt 22 (p := ("_law_joined", 29)) rfl
    obtain ⟨f__law_draw', fd__law_draw, g__law_draw, F__law_draw, G__law_draw⟩ := ok__law_draw (P := P) (w := w) (base := base) (β := β) (γ := γ) (xr := xr) c
    obtain ⟨f__law_pick', fd__law_pick, g__law_pick, F__law_pick, G__law_pick⟩ := ok__law_pick (P := P) (w := w) (base := base) (β := β) (γ := γ) (xr := xr) c
    obtain ⟨f__law_moved', fd__law_moved, g__law_moved, F__law_moved, G__law_moved⟩ := ok__law_moved (P := P) (w := w) (base := base) (β := β) (γ := γ) (xr := xr) c
    obtain ⟨f__law_order', fd__law_order, g__law_order, F__law_order, G__law_order⟩ := ok__law_order (P := P) (w := w) (base := base) (β := β) (γ := γ) (xr := xr) c
    obtain ⟨f__law_joined', fd__law_joined, g__law_joined, F__law_joined, G__law_joined⟩ := okr__law_joined c j
    obtain ⟨f__law_class_turned', fd__law_class_turned, g__law_class_turned, F__law_class_turned, G__law_class_turned⟩ := ok__law_class_turned (P := P) (w := w) (base := base) (β := β) (γ := γ) (xr := xr) c
    obtain ⟨f__law_merged', fd__law_merged, g__law_merged, F__law_merged, G__law_merged⟩ := ok__law_merged (P := P) (w := w) (base := base) (β := β) (γ := γ) (xr := xr) c
    obtain ⟨f__law_tied', fd__law_tied, g__law_tied, F__law_tied, G__law_tied⟩ := ok__law_tied (P := P) (w := w) (base := base) (β := β) (γ := γ) (xr := xr) c
    have g_len := c.bAt 5 (x := "len") rfl
    have g_list := c.bAt 6 (x := "list") rfl
    have g_range := c.bAt 7 (x := "range") rfl
    have g_tuple := c.bAt 13 (x := "tuple") rfl
    refine ⟨f, fd, g0, Fd, FnG.ofM (k := 2 + j) Fd sc__law_joined rfl fun cdv A outer s H F0 E hr hgd tk hp => ?_⟩
    have hu := hr.units
    have hu2 : _ + 200 < cLine := L2Room_units200 hr
    exact (rss_cons (rs_if (rt_eq hu (re_var (pv 1)) re_int) (rss_one (rs_ret (re_fr (re_tup (ra_cons re_int ra_nil))))) rss_nil) (rss_cons (rs_if (RW.pt (rw_and (rt_eq hu (re_var (pv 1)) re_int) (rw_and1 (rt_eq hu (rx_fz (rx_call G__law_draw (hr.mono (by omega)) hgd (pb__law_draw_0 F__law_draw) tk rfl g__law_draw F__law_draw.kp (ra_cons (re_var (pv 0)) (ra_cons re_int ra_nil)))) re_int)))) (rss_cons (rs_asg (ps_set (i := 2) sc__law_joined.nd rfl (Or.inl rfl) (rx_call G__law_pick (hr.mono (by omega)) hgd (pb__law_pick_0 F__law_pick) tk rfl g__law_pick F__law_pick.kp (ra_cons (re_var (pv 0)) (ra_cons (rx_fz (rx_lst (ra_cons (re_tup (ra_cons re_int (ra_cons re_int (ra_cons re_int (ra_cons re_int (ra_cons re_int (ra_cons re_int (ra_cons re_int (ra_cons re_int ra_nil))))))))) (ra_cons (re_tup (ra_cons re_int (ra_cons re_int (ra_cons re_int (ra_cons re_int (ra_cons re_int (ra_cons re_int (ra_cons re_int (ra_cons re_int ra_nil))))))))) (ra_cons (re_tup (ra_cons re_int (ra_cons re_int (ra_cons re_int (ra_cons re_int (ra_cons re_int (ra_cons re_int (ra_cons re_int (ra_cons re_int ra_nil))))))))) ra_nil))))) ra_nil))))) (rss_one (rs_ret (rx_call G__law_moved (hr.mono (by omega)) hgd (pb__law_moved_0 F__law_moved) tk rfl g__law_moved F__law_moved.kp (ra_cons (re_var (pv 2)) (ra_cons (rx_fz (rx_call G__law_order (hr.mono (by omega)) hgd (pb__law_order_0 F__law_order) tk rfl g__law_order F__law_order.kp (ra_cons (re_var (pv 0)) (ra_cons re_int ra_nil)))) (ra_cons (rx_fz (rx_call G__law_draw (hr.mono (by omega)) hgd (pb__law_draw_0 F__law_draw) tk rfl g__law_draw F__law_draw.kp (ra_cons (re_var (pv 0)) (ra_cons re_int ra_nil)))) ra_nil))))))) rss_nil) (rss_cons (rs_parT (cons_len (cons_len nil_len)) (by decide) (ps_asg (pe_tup (rr_cons (rx_call G__law_joined (hr.mono (by omega)) hgd (pb__law_joined_0 F__law_joined) tk rfl g__law_joined F__law_joined.kp (ra_cons (re_var (pv 0)) (ra_cons (re_sub (re_var (pv 1)) re_int) ra_nil))) (rr_cons (rx_call G__law_draw (hr.mono (by omega)) hgd (pb__law_draw_0 F__law_draw) tk rfl g__law_draw F__law_draw.kp (ra_cons (re_var (pv 0)) (ra_cons re_int ra_nil))) rr_nil))) (pg_tup rfl (pgs_cons (pg_name sc__law_joined.nd (i := 3) rfl (by first | exact Or.inl rfl | exact Or.inr rfl)) (pgs_cons (pg_name sc__law_joined.nd (i := 4) rfl (by first | exact Or.inl rfl | exact Or.inr rfl)) pgs_nil))))) (rss_cons (rs_asg (ps_set (i := 5) sc__law_joined.nd rfl (Or.inr rfl) (re_fr (re_var (pv 3))))) (rss_cons (rs_if (RW.pt (rw_and (rt_eq hu (re_var (pv 4)) re_int) (rw_and1 (rt_gt (re_var (pv 1)) re_int)))) (rss_one (rs_asg (ps_set (i := 5) sc__law_joined.nd rfl (Or.inr rfl) (rx_call G__law_class_turned (hr.mono (by omega)) hgd (pb__law_class_turned_0 F__law_class_turned) tk rfl g__law_class_turned F__law_class_turned.kp (ra_cons (re_var (pv 0)) (ra_cons (re_var (pv 3)) (ra_cons (re_sub (re_var (pv 1)) re_int) ra_nil))))))) (rss_one (rs_if (rt_gt (re_var (pv 4)) re_int) (rss_one (rs_asg (ps_set (i := 5) sc__law_joined.nd rfl (Or.inr rfl) (rx_call G__law_joined (hr.mono (by omega)) hgd (pb__law_joined_0 F__law_joined) tk rfl g__law_joined F__law_joined.kp (ra_cons (re_var (pv 0)) (ra_cons (re_sub (re_var (pv 1)) re_int) ra_nil)))))) rss_nil))) (rss_cons (rs_asg (ps_set (i := 6) sc__law_joined.nd rfl (Or.inr rfl) (rx_call G__law_merged (hr.mono (by omega)) hgd (pb__law_merged_0 F__law_merged) tk rfl g__law_merged F__law_merged.kp (ra_cons (rx_fz (rx_lrg rfl (re_len (rp_var (pv 3)) rfl g_len) rfl g_list rfl g_range)) (ra_cons (rx_fz (rx_call G__law_tied (hr.mono (by omega)) hgd (pb__law_tied_0 F__law_tied) tk rfl g__law_tied F__law_tied.kp (ra_cons (re_var (pv 3)) (ra_cons (re_var (pv 5)) ra_nil)))) ra_nil))))) (rss_cons (rs_asg (ps_set (i := 8) sc__law_joined.nd rfl (Or.inr rfl) (rx_lc rfl sc__law_joined.nd (ri_seq (re_var (pv 6))) (own := [("mark", 7)]) (blkOk_by (by kernel_rfl)) (fun _ _ _ _ _ => (rg_name (vs := [7]) (pg_name sc__law_joined.nd (i := 7) rfl (by first | exact Or.inl rfl | exact Or.inr rfl)))) (fun _ _ _ _ _ => rts_nil) (fun _ _ _ _ _ => (re_shl (rx_fz (rx_call G__law_draw (hr.mono (by omega)) hgd (pb__law_draw_0 F__law_draw) takesF rfl g__law_draw F__law_draw.kp (ra_cons (re_var (pv 0)) (ra_cons re_int ra_nil)))) (re_sub (re_var (pv 1)) re_int)))))) (rss_cons (rs_asg (ps_set (i := 9) sc__law_joined.nd rfl (Or.inr rfl) (re_fr (re_shl re_int (re_sub (re_var (pv 1)) re_int))))) (rss_cons (rs_lc (i := 11) rfl sc__law_joined.nd rfl rfl (sw_true rfl rfl rfl (by kernel_rfl)) (ri_rg1 (ra_cons (re_len (rp_var (pv 3)) rfl g_len) ra_nil) rfl g_range) (own := [("v", 10)]) (blkOk_by (by kernel_rfl)) (fun _ _ _ _ _ => (rg_name (vs := [10]) (pg_name sc__law_joined.nd (i := 10) rfl (by first | exact Or.inl rfl | exact Or.inr rfl)))) (fun _ _ _ _ _ => rts_nil) (fun _ _ _ _ _ => (re_orB (re_ixN (pv 3) (re_var (pv 10))) (re_ixN (pv 8) (re_ixN (pv 6) (re_var (pv 10))))))) (rss_one (rs_ret (re_fr (re_tuple (re_pk (rx_fz (rx_add (re_var (pv 11)) (rx_fz (rx_lc rfl sc__law_joined.nd (ri_rg1 (ra_cons (re_len (rp_var (pv 5)) rfl g_len) ra_nil) rfl g_range) (own := [("v", 10)]) (blkOk_by (by kernel_rfl)) (fun _ _ _ _ _ => (rg_name (vs := [10]) (pg_name sc__law_joined.nd (i := 10) rfl (by first | exact Or.inl rfl | exact Or.inr rfl)))) (fun _ _ _ _ _ => rts_nil) (fun _ _ _ _ _ => (re_orB (re_ixN (pv 5) (re_var (pv 10))) (re_sub (re_var (pv 9)) (re_ixN (pv 8) (re_ixN (pv 6) (re_var (pv 10)))))))))))) rfl g_tuple)))))))))))))
theorem ok__law_joined (c : Facts top tab bl gi K mg) : DfOk P w K mg base 10 "_law_joined" (top 29) ["bag", "n"] β γ xr 2 f__law_joined := okr__law_joined c 8
theorem sc__law_good : FnScope ["bag", "n", "cube", "turn"] ["bag", "n"] (defScope (top 30)) := ⟨rfl, rfl, rfl, by decide +kernel, rfl, by decide +kernel, by decide +kernel⟩
theorem ok__law_good (c : Facts top tab bl gi K mg) : DfOk P w K mg base 11 "_law_good" (top 30) ["bag", "n"] β γ xr 2 f__law_good := by
  obtain ⟨f, fd, g0, Fd⟩ := c.dAt 23 (p := ("_law_good", 30)) rfl
  obtain ⟨f__law_joined', fd__law_joined, g__law_joined, F__law_joined, G__law_joined⟩ := ok__law_joined (P := P) (w := w) (base := base) (β := β) (γ := γ) (xr := xr) c
  obtain ⟨f__law_draw', fd__law_draw, g__law_draw, F__law_draw, G__law_draw⟩ := ok__law_draw (P := P) (w := w) (base := base) (β := β) (γ := γ) (xr := xr) c
  obtain ⟨f__law_class_turned', fd__law_class_turned, g__law_class_turned, F__law_class_turned, G__law_class_turned⟩ := ok__law_class_turned (P := P) (w := w) (base := base) (β := β) (γ := γ) (xr := xr) c
  obtain ⟨f__law_moved', fd__law_moved, g__law_moved, F__law_moved, G__law_moved⟩ := ok__law_moved (P := P) (w := w) (base := base) (β := β) (γ := γ) (xr := xr) c
  obtain ⟨f__law_order', fd__law_order, g__law_order, F__law_order, G__law_order⟩ := ok__law_order (P := P) (w := w) (base := base) (β := β) (γ := γ) (xr := xr) c
  have g_range := c.bAt 7 (x := "range") rfl
  have g_len := c.bAt 5 (x := "len") rfl
  refine ⟨f, fd, g0, Fd, FnG.ofM Fd sc__law_good rfl fun cdv A outer s H F0 E hr hgd tk hp => ?_⟩
  have hu := hr.units
  have hu2 : _ + 200 < cLine := L2Room_units200 hr
  exact (rss_cons (rs_asg (ps_set (i := 2) sc__law_good.nd rfl (Or.inl rfl) (rx_call G__law_joined (hr.mono (by decide)) hgd (pb__law_joined_0 F__law_joined) tk rfl g__law_joined F__law_joined.kp (ra_cons (re_var (pv 0)) (ra_cons (re_var (pv 1)) ra_nil))))) (rss_cons (rs_for hp rfl (ri_rg1 (ra_cons (rx_fz (rx_call G__law_draw (hr.mono (by decide)) hgd (pb__law_draw_0 F__law_draw) tk rfl g__law_draw F__law_draw.kp (ra_cons (re_var (pv 0)) (ra_cons (rx_fz (rx_if (rt_lt (re_var (pv 1)) re_int) (re_fr re_int) (re_fr re_int))) ra_nil)))) ra_nil) rfl g_range) (rg_name (vs := [3]) (pg_name sc__law_good.nd (i := 3) rfl (by first | exact Or.inl rfl | exact Or.inr rfl))) (rss_one (rs_if (rt_gt (re_var (pv 1)) re_int) (rss_one (rs_asg (ps_set (i := 2) sc__law_good.nd rfl (Or.inl rfl) (rx_call G__law_class_turned (hr.mono (by decide)) hgd (pb__law_class_turned_0 F__law_class_turned) tk rfl g__law_class_turned F__law_class_turned.kp (ra_cons (re_var (pv 0)) (ra_cons (re_var (pv 2)) (ra_cons (re_var (pv 1)) ra_nil))))))) rss_nil))) (rss_cons (rs_if (rt_eq hu (rx_fz (rx_call G__law_draw (hr.mono (by decide)) hgd (pb__law_draw_0 F__law_draw) tk rfl g__law_draw F__law_draw.kp (ra_cons (re_var (pv 0)) (ra_cons re_int ra_nil)))) re_int) (rss_one (rs_asg (ps_set (i := 2) sc__law_good.nd rfl (Or.inl rfl) (rx_call G__law_moved (hr.mono (by decide)) hgd (pb__law_moved_0 F__law_moved) tk rfl g__law_moved F__law_moved.kp (ra_cons (re_var (pv 2)) (ra_cons (rx_fz (rx_call G__law_order (hr.mono (by decide)) hgd (pb__law_order_0 F__law_order) tk rfl g__law_order F__law_order.kp (ra_cons (re_var (pv 0)) (ra_cons (re_var (pv 1)) ra_nil)))) (ra_cons (rx_fz (rx_call G__law_draw (hr.mono (by decide)) hgd (pb__law_draw_0 F__law_draw) tk rfl g__law_draw F__law_draw.kp (ra_cons (re_var (pv 0)) (ra_cons (re_len (rp_var (pv 2)) rfl g_len) ra_nil)))) ra_nil))))))) rss_nil) (rss_one (rs_retN (pv 2))))))
theorem sc__law_arrows : FnScope ["bag", "n", "found", "i", "v", "end"] ["bag", "n"] (defScope (top 31)) := ⟨rfl, rfl, rfl, by decide +kernel, rfl, by decide +kernel, by decide +kernel⟩
theorem ok__law_arrows (c : Facts top tab bl gi K mg) : DfOk P w K mg base 2 "_law_arrows" (top 31) ["bag", "n"] β γ xr 2 f__law_arrows := by
  obtain ⟨f, fd, g0, Fd⟩ := c.dAt 24 (p := ("_law_arrows", 31)) rfl
  obtain ⟨f__law_draw', fd__law_draw, g__law_draw, F__law_draw, G__law_draw⟩ := ok__law_draw (P := P) (w := w) (base := base) (β := β) (γ := γ) (xr := xr) c
  have g_range := c.bAt 7 (x := "range") rfl
  have g_tuple := c.bAt 13 (x := "tuple") rfl
  refine ⟨f, fd, g0, Fd, FnG.ofM Fd sc__law_arrows rfl fun cdv A outer s H F0 E hr hgd tk hp => ?_⟩
  have hu := hr.units
  have hu2 : _ + 200 < cLine := L2Room_units200 hr
  exact (rss_cons (rs_asg (ps_set (i := 2) sc__law_arrows.nd rfl (Or.inl rfl) (rx_mul (rx_fz (rx_lst (ra_cons re_int ra_nil))) (re_shl re_int (re_var (pv 1)))))) (rss_cons (rs_for hp rfl (ri_rg1 (ra_cons (re_var (pv 1)) ra_nil) rfl g_range) (rg_name (vs := [3]) (pg_name sc__law_arrows.nd (i := 3) rfl (by first | exact Or.inl rfl | exact Or.inr rfl))) (rss_one (rs_for hp rfl (ri_rg1 (ra_cons (re_shl re_int (re_var (pv 1))) ra_nil) rfl g_range) (rg_name (vs := [4]) (pg_name sc__law_arrows.nd (i := 4) rfl (by first | exact Or.inl rfl | exact Or.inr rfl))) (rss_one (rs_if (rt_eq hu (re_andB (re_shr (re_var (pv 4)) (re_var (pv 3))) re_int) re_int) (rss_cons (rs_asg (ps_set (i := 5) sc__law_arrows.nd rfl (Or.inl rfl) (re_fr (re_orB (re_var (pv 4)) (re_shl (rx_fz (rx_call G__law_draw (hr.mono (by decide)) hgd (pb__law_draw_0 F__law_draw) tk rfl g__law_draw F__law_draw.kp (ra_cons (re_var (pv 0)) (ra_cons re_int ra_nil)))) (re_var (pv 3))))))) (rss_one (rs_setI (ps_asg (re_orB (re_ixN (pv 2) (re_var (pv 5))) (re_shl re_int (re_var (pv 3)))) (pg_sub (pv 2) (re_var (pv 5)) set_list))))) rss_nil))))) (rss_one (rs_ret (re_fr (re_tuple (rp_var (pv 2)) rfl g_tuple))))))
theorem sc__law_corners : FnScope ["face", "found", "i", "v"] ["face"] (defScope (top 32)) := ⟨rfl, rfl, rfl, by decide +kernel, rfl, by decide +kernel, by decide +kernel⟩
theorem ok__law_corners (c : Facts top tab bl gi K mg) : DfOk P w K mg base 1 "_law_corners" (top 32) ["face"] β γ xr 1 f__law_corners := by
  obtain ⟨f, fd, g0, Fd⟩ := c.dAt 25 (p := ("_law_corners", 32)) rfl
  have g_range := c.bAt 7 (x := "range") rfl
  have g_sorted := c.bAt 10 (x := "sorted") rfl
  refine ⟨f, fd, g0, Fd, FnG.ofM Fd sc__law_corners rfl fun cdv A outer s H F0 E hr hgd tk hp => ?_⟩
  have hu := hr.units
  have hu2 : _ + 200 < cLine := L2Room_units200 hr
  exact (rss_cons (rs_asg (ps_set (i := 1) sc__law_corners.nd rfl (Or.inl rfl) (rx_lst (ra_cons (re_ixN (pv 0) re_int) ra_nil)))) (rss_cons (rs_for hp rfl (ri_rg1 (ra_cons re_int ra_nil) rfl g_range) (rg_name (vs := [2]) (pg_name sc__law_corners.nd (i := 2) rfl (by first | exact Or.inl rfl | exact Or.inr rfl))) (rss_one (rs_if (rt_eq hu (re_andB (re_shr (re_ixN (pv 0) re_int) (re_var (pv 2))) re_int) re_int) (rss_one (rs_asg (ps_set (i := 1) sc__law_corners.nd rfl (Or.inl rfl) (rx_add (re_var (pv 1)) (rx_fz (rx_lc rfl sc__law_corners.nd (ri_seq (re_var (pv 1))) (own := [("v", 3)]) (blkOk_by (by kernel_rfl)) (fun _ _ _ _ _ => (rg_name (vs := [3]) (pg_name sc__law_corners.nd (i := 3) rfl (by first | exact Or.inl rfl | exact Or.inr rfl)))) (fun _ _ _ _ _ => rts_nil) (fun _ _ _ _ _ => (re_orB (re_var (pv 3)) (re_shl re_int (re_var (pv 2))))))))))) rss_nil))) (rss_one (rs_ret (rx_sorted (rp_var (pv 1)) rfl g_sorted)))))
theorem sc__law_many : FnScope ["some", "i"] ["some"] (defScope (top 33)) := ⟨rfl, rfl, rfl, by decide +kernel, rfl, by decide +kernel, by decide +kernel⟩
theorem ok__law_many (c : Facts top tab bl gi K mg) : DfOk P w K mg base 1 "_law_many" (top 33) ["some"] β γ xr 1 f__law_many := by
  obtain ⟨f, fd, g0, Fd⟩ := c.dAt 26 (p := ("_law_many", 33)) rfl
  have g_range := c.bAt 7 (x := "range") rfl
  have g_sum := c.bAt 11 (x := "sum") rfl
  refine ⟨f, fd, g0, Fd, FnG.ofM Fd sc__law_many rfl fun cdv A outer s H F0 E hr hgd tk hp => ?_⟩
  have hu := hr.units
  have hu2 : _ + 200 < cLine := L2Room_units200 hr
  exact (rss_one (rs_ret (re_fr (re_sum2 rfl (re_pk (rx_fz (rx_lc rfl sc__law_many.nd (ri_rg1 (ra_cons re_int ra_nil) rfl g_range) (own := [("i", 1)]) (blkOk_by (by kernel_rfl)) (fun _ _ _ _ _ => (rg_name (vs := [1]) (pg_name sc__law_many.nd (i := 1) rfl (by first | exact Or.inl rfl | exact Or.inr rfl)))) (fun _ _ _ _ _ => rts_nil) (fun _ _ _ _ _ => (re_andB (re_shr (re_var (pv 0)) (re_var (pv 1))) re_int))))) rfl g_sum))))
theorem sc__law_lows : FnScope ["arrows", "face", "v"] ["arrows", "face"] (defScope (top 34)) := ⟨rfl, rfl, rfl, by decide +kernel, rfl, by decide +kernel, by decide +kernel⟩
theorem ok__law_lows (c : Facts top tab bl gi K mg) : DfOk P w K mg base 2 "_law_lows" (top 34) ["arrows", "face"] β γ xr 2 f__law_lows := by
  obtain ⟨f, fd, g0, Fd⟩ := c.dAt 27 (p := ("_law_lows", 34)) rfl
  obtain ⟨f__law_corners', fd__law_corners, g__law_corners, F__law_corners, G__law_corners⟩ := ok__law_corners (P := P) (w := w) (base := base) (β := β) (γ := γ) (xr := xr) c
  have g_tuple := c.bAt 13 (x := "tuple") rfl
  refine ⟨f, fd, g0, Fd, FnG.ofM Fd sc__law_lows rfl fun cdv A outer s H F0 E hr hgd tk hp => ?_⟩
  have hu := hr.units
  have hu2 : _ + 200 < cLine := L2Room_units200 hr
  exact (rss_one (rs_ret (re_fr (re_tuple (re_pk (rx_fz (rx_lc rfl sc__law_lows.nd (ri_seq (rx_fz (rx_call G__law_corners (hr.mono (by decide)) hgd (pb__law_corners_0 F__law_corners) tk rfl g__law_corners F__law_corners.kp (ra_cons (re_var (pv 1)) ra_nil)))) (own := [("v", 2)]) (blkOk_by (by kernel_rfl)) (fun _ _ _ _ _ => (rg_name (vs := [2]) (pg_name sc__law_lows.nd (i := 2) rfl (by first | exact Or.inl rfl | exact Or.inr rfl)))) (fun _ _ _ _ _ => (rts_one (rt_eq hu (re_andB (re_ixN (pv 0) (re_var (pv 2))) (re_ixN (pv 1) re_int)) re_int))) (fun _ _ _ _ _ => (re_var (pv 2)))))) rfl g_tuple))))
theorem sc__law_highs : FnScope ["arrows", "face", "v"] ["arrows", "face"] (defScope (top 35)) := ⟨rfl, rfl, rfl, by decide +kernel, rfl, by decide +kernel, by decide +kernel⟩
theorem ok__law_highs (c : Facts top tab bl gi K mg) : DfOk P w K mg base 2 "_law_highs" (top 35) ["arrows", "face"] β γ xr 2 f__law_highs := by
  obtain ⟨f, fd, g0, Fd⟩ := c.dAt 28 (p := ("_law_highs", 35)) rfl
  obtain ⟨f__law_corners', fd__law_corners, g__law_corners, F__law_corners, G__law_corners⟩ := ok__law_corners (P := P) (w := w) (base := base) (β := β) (γ := γ) (xr := xr) c
  have g_tuple := c.bAt 13 (x := "tuple") rfl
  refine ⟨f, fd, g0, Fd, FnG.ofM Fd sc__law_highs rfl fun cdv A outer s H F0 E hr hgd tk hp => ?_⟩
  have hu := hr.units
  have hu2 : _ + 200 < cLine := L2Room_units200 hr
  exact (rss_one (rs_ret (re_fr (re_tuple (re_pk (rx_fz (rx_lc rfl sc__law_highs.nd (ri_seq (rx_fz (rx_call G__law_corners (hr.mono (by decide)) hgd (pb__law_corners_0 F__law_corners) tk rfl g__law_corners F__law_corners.kp (ra_cons (re_var (pv 1)) ra_nil)))) (own := [("v", 2)]) (blkOk_by (by kernel_rfl)) (fun _ _ _ _ _ => (rg_name (vs := [2]) (pg_name sc__law_highs.nd (i := 2) rfl (by first | exact Or.inl rfl | exact Or.inr rfl)))) (fun _ _ _ _ _ => (rts_one (rt_eq hu (re_andB (re_ixN (pv 0) (re_var (pv 2))) (re_ixN (pv 1) re_int)) (re_ixN (pv 1) re_int)))) (fun _ _ _ _ _ => (re_var (pv 2)))))) rfl g_tuple))))
theorem sc__law_binomials : FnScope ["many", "row", "turn", "j"] ["many"] (defScope (top 36)) := ⟨rfl, rfl, rfl, by decide +kernel, rfl, by decide +kernel, by decide +kernel⟩
theorem ok__law_binomials (c : Facts top tab bl gi K mg) : DfOk P w K mg base 1 "_law_binomials" (top 36) ["many"] β γ xr 1 f__law_binomials := by
  obtain ⟨f, fd, g0, Fd⟩ := c.dAt 29 (p := ("_law_binomials", 36)) rfl
  have g_range := c.bAt 7 (x := "range") rfl
  have g_len := c.bAt 5 (x := "len") rfl
  have g_tuple := c.bAt 13 (x := "tuple") rfl
  refine ⟨f, fd, g0, Fd, FnG.ofM Fd sc__law_binomials rfl fun cdv A outer s H F0 E hr hgd tk hp => ?_⟩
  have hu := hr.units
  have hu2 : _ + 200 < cLine := L2Room_units200 hr
  exact (rss_cons (rs_asg (ps_set (i := 1) sc__law_binomials.nd rfl (Or.inr rfl) (rx_lst (ra_cons re_int ra_nil)))) (rss_cons (rs_for hp rfl (ri_rg1 (ra_cons (re_var (pv 0)) ra_nil) rfl g_range) (rg_name (vs := [2]) (pg_name sc__law_binomials.nd (i := 2) rfl (by first | exact Or.inl rfl | exact Or.inr rfl))) (rss_one (rs_asg (ps_set (i := 1) sc__law_binomials.nd rfl (Or.inr rfl) (rx_add (rx_fz (rx_add (rx_fz (rx_lst (ra_cons re_int ra_nil))) (rx_fz (rx_lc rfl sc__law_binomials.nd (ri_rg1 (ra_cons (re_sub (re_len (rp_var (pv 1)) rfl g_len) re_int) ra_nil) rfl g_range) (own := [("j", 3)]) (blkOk_by (by kernel_rfl)) (fun _ _ _ _ _ => (rg_name (vs := [3]) (pg_name sc__law_binomials.nd (i := 3) rfl (by first | exact Or.inl rfl | exact Or.inr rfl)))) (fun _ _ _ _ _ => rts_nil) (fun _ _ _ _ _ => (rx_fz (rx_add (re_ixN (pv 1) (re_var (pv 3))) (re_ixN (pv 1) (rx_fz (rx_add (re_var (pv 3)) re_int)))))))))) (rx_fz (rx_lst (ra_cons re_int ra_nil)))))))) (rss_one (rs_ret (re_fr (re_tuple (rp_var (pv 1)) rfl g_tuple))))))
theorem sc__law_faces : FnScope ["bag", "n", "full", "found", "free", "base", "turn"] ["bag", "n"] (defScope (top 37)) := ⟨rfl, rfl, rfl, by decide +kernel, rfl, by decide +kernel, by decide +kernel⟩
theorem ok__law_faces (c : Facts top tab bl gi K mg) : DfOk P w K mg base 2 "_law_faces" (top 37) ["bag", "n"] β γ xr 2 f__law_faces := by
  obtain ⟨f, fd, g0, Fd⟩ := c.dAt 30 (p := ("_law_faces", 37)) rfl
  obtain ⟨f__law_draw', fd__law_draw, g__law_draw, F__law_draw, G__law_draw⟩ := ok__law_draw (P := P) (w := w) (base := base) (β := β) (γ := γ) (xr := xr) c
  have g_range := c.bAt 7 (x := "range") rfl
  refine ⟨f, fd, g0, Fd, FnG.ofM Fd sc__law_faces rfl fun cdv A outer s H F0 E hr hgd tk hp => ?_⟩
  have hu := hr.units
  have hu2 : _ + 200 < cLine := L2Room_units200 hr
  exact (rss_cons (rs_asg (ps_set (i := 2) sc__law_faces.nd rfl (Or.inl rfl) (re_fr (re_sub (re_shl re_int (re_var (pv 1))) re_int)))) (rss_cons (rs_if (rt_lt (re_var (pv 1)) re_int) (rss_cons (rs_asg (ps_set (i := 3) sc__law_faces.nd rfl (Or.inl rfl) (rx_lst ra_nil))) (rss_cons (rs_for hp rfl (ri_rg1 (ra_cons (re_shl re_int (re_var (pv 1))) ra_nil) rfl g_range) (rg_name (vs := [4]) (pg_name sc__law_faces.nd (i := 4) rfl (by first | exact Or.inl rfl | exact Or.inr rfl))) (rss_one (rs_drop (ps_expr (re_extend (pe_bm PySem.F.plainAttrs_list PySem.F.slot_list_extend PySem.F.type_list_extend mt_extend (pv 3) (ra_cons (rx_fz (rx_lc rfl sc__law_faces.nd (ri_rg1 (ra_cons (re_shl re_int (re_var (pv 1))) ra_nil) rfl g_range) (own := [("base", 5)]) (blkOk_by (by kernel_rfl)) (fun _ _ _ _ _ => (rg_name (vs := [5]) (pg_name sc__law_faces.nd (i := 5) rfl (by first | exact Or.inl rfl | exact Or.inr rfl)))) (fun _ _ _ _ _ => (rts_one (rt_eq hu (re_andB (re_var (pv 4)) (re_var (pv 5))) re_int))) (fun _ _ _ _ _ => (re_tup (ra_cons (re_var (pv 4)) (ra_cons (re_var (pv 5)) ra_nil)))))) ra_nil))))))) (rss_one (rs_retN (pv 3))))) rss_nil) (rss_cons (rs_asg (ps_set (i := 3) sc__law_faces.nd rfl (Or.inl rfl) (rx_lst (ra_cons (re_tup (ra_cons (re_var (pv 2)) (ra_cons re_int ra_nil))) (ra_cons (re_tup (ra_cons re_int (ra_cons (rx_fz (rx_call G__law_draw (hr.mono (by decide)) hgd (pb__law_draw_0 F__law_draw) tk rfl g__law_draw F__law_draw.kp (ra_cons (re_var (pv 0)) (ra_cons (re_shl re_int (re_var (pv 1))) ra_nil)))) ra_nil))) ra_nil))))) (rss_cons (rs_for hp rfl (ri_rg1 (ra_cons (re_ix (rx_fz (rx_lst (ra_cons re_int (ra_cons re_int (ra_cons re_int ra_nil))))) (re_sub (re_var (pv 1)) re_int)) ra_nil) rfl g_range) (rg_name (vs := [6]) (pg_name sc__law_faces.nd (i := 6) rfl (by first | exact Or.inl rfl | exact Or.inr rfl))) (rss_cons (rs_asg (ps_set (i := 4) sc__law_faces.nd rfl (Or.inr rfl) (rx_call G__law_draw (hr.mono (by decide)) hgd (pb__law_draw_0 F__law_draw) tk rfl g__law_draw F__law_draw.kp (ra_cons (re_var (pv 0)) (ra_cons (re_shl re_int (re_var (pv 1))) ra_nil))))) (rss_one (rs_drop (ps_expr (re_append (pe_bm PySem.F.plainAttrs_list PySem.F.slot_list_append PySem.F.type_list_append mt_append (pv 3) (ra_cons (re_tup (ra_cons (re_var (pv 4)) (ra_cons (re_andB (rx_fz (rx_call G__law_draw (hr.mono (by decide)) hgd (pb__law_draw_0 F__law_draw) tk rfl g__law_draw F__law_draw.kp (ra_cons (re_var (pv 0)) (ra_cons (re_shl re_int (re_var (pv 1))) ra_nil)))) (re_sub (re_var (pv 2)) (re_var (pv 4)))) ra_nil))) ra_nil)))))))) (rss_one (rs_retN (pv 3)))))))
theorem sc__law_is_face_right : FnScope ["cube", "face", "turn", "low", "high", "due", "told"] ["cube", "face", "turn"] (defScope (top 38)) := ⟨rfl, rfl, rfl, by decide +kernel, rfl, by decide +kernel, by decide +kernel⟩
theorem ok__law_is_face_right (c : Facts top tab bl gi K mg) : DfOk P w K mg base 5 "_law_is_face_right" (top 38) ["cube", "face", "turn"] β γ xr 3 f__law_is_face_right := by
  obtain ⟨f, fd, g0, Fd⟩ := c.dAt 31 (p := ("_law_is_face_right", 38)) rfl
  obtain ⟨f__law_lows', fd__law_lows, g__law_lows, F__law_lows, G__law_lows⟩ := ok__law_lows (P := P) (w := w) (base := base) (β := β) (γ := γ) (xr := xr) c
  obtain ⟨f__law_highs', fd__law_highs, g__law_highs, F__law_highs, G__law_highs⟩ := ok__law_highs (P := P) (w := w) (base := base) (β := β) (γ := γ) (xr := xr) c
  obtain ⟨f__law_binomials', fd__law_binomials, g__law_binomials, F__law_binomials, G__law_binomials⟩ := ok__law_binomials (P := P) (w := w) (base := base) (β := β) (γ := γ) (xr := xr) c
  obtain ⟨f__law_many', fd__law_many, g__law_many, F__law_many, G__law_many⟩ := ok__law_many (P := P) (w := w) (base := base) (β := β) (γ := γ) (xr := xr) c
  obtain ⟨f_low_of', fd_low_of, g_low_of, F_low_of, G_low_of⟩ := ok_low_of (P := P) (w := w) (base := base) (β := β) (γ := γ) (xr := xr) c
  obtain ⟨f_high_of', fd_high_of, g_high_of, F_high_of, G_high_of⟩ := ok_high_of (P := P) (w := w) (base := base) (β := β) (γ := γ) (xr := xr) c
  obtain ⟨f_leaving_counts', fd_leaving_counts, g_leaving_counts, F_leaving_counts, G_leaving_counts⟩ := ok_leaving_counts (P := P) (w := w) (base := base) (β := β) (γ := γ) (xr := xr) c
  obtain ⟨f_low_corners', fd_low_corners, g_low_corners, F_low_corners, G_low_corners⟩ := ok_low_corners (P := P) (w := w) (base := base) (β := β) (γ := γ) (xr := xr) c
  obtain ⟨f_high_corners', fd_high_corners, g_high_corners, F_high_corners, G_high_corners⟩ := ok_high_corners (P := P) (w := w) (base := base) (β := β) (γ := γ) (xr := xr) c
  obtain ⟨f__law_same', fd__law_same, g__law_same, F__law_same, G__law_same⟩ := ok__law_same (P := P) (w := w) (base := base) (β := β) (γ := γ) (xr := xr) c
  refine ⟨f, fd, g0, Fd, FnG.ofM Fd sc__law_is_face_right rfl fun cdv A outer s H F0 E hr hgd tk hp => ?_⟩
  have hu := hr.units
  have hu2 : _ + 200 < cLine := L2Room_units200 hr
  exact (rss_cons (rs_par2 (cons_len (cons_len nil_len)) (ps_par (i := 3) (j := 4) rfl sc__law_is_face_right.nd rfl rfl (by decide) rfl rfl (rr_cons (re_fr (re_ix (rx_fz (rx_call G__law_lows (hr.mono (by decide)) hgd (pb__law_lows_0 F__law_lows) tk rfl g__law_lows F__law_lows.kp (ra_cons (re_var (pv 0)) (ra_cons (re_var (pv 1)) ra_nil)))) re_int)) (rr_cons (re_fr (re_ix (rx_fz (rx_call G__law_highs (hr.mono (by decide)) hgd (pb__law_highs_0 F__law_highs) tk rfl g__law_highs F__law_highs.kp (ra_cons (re_var (pv 0)) (ra_cons (re_var (pv 1)) ra_nil)))) re_int)) rr_nil)) (by kernel_rfl))) (rss_cons (rs_asg (ps_set (i := 5) sc__law_is_face_right.nd rfl (Or.inl rfl) (rx_lst (ra_cons (re_var (pv 3)) (ra_cons (re_var (pv 4)) (ra_cons (rx_fz (rx_call G__law_binomials (hr.mono (by decide)) hgd (pb__law_binomials_0 F__law_binomials) tk rfl g__law_binomials F__law_binomials.kp (ra_cons (rx_fz (rx_call G__law_many (hr.mono (by decide)) hgd (pb__law_many_0 F__law_many) tk rfl g__law_many F__law_many.kp (ra_cons (re_ixN (pv 1) re_int) ra_nil))) ra_nil))) (ra_cons (re_tup (ra_cons (re_var (pv 3)) ra_nil)) (ra_cons (re_tup (ra_cons (re_var (pv 4)) ra_nil)) ra_nil)))))))) (rss_cons (rs_if (rt_eq hu (re_var (pv 2)) re_int) (rss_cons (rs_asg (ps_set (i := 6) sc__law_is_face_right.nd rfl (Or.inl rfl) (rx_lst (ra_cons (rx_fz (rx_call G_low_of (hr.mono (by decide)) hgd (pb_low_of_0 F_low_of) tk rfl g_low_of F_low_of.kp (ra_cons (re_var (pv 0)) (ra_cons (re_var (pv 1)) ra_nil)))) (ra_cons (rx_fz (rx_call G_high_of (hr.mono (by decide)) hgd (pb_high_of_0 F_high_of) tk rfl g_high_of F_high_of.kp (ra_cons (re_var (pv 0)) (ra_cons (re_var (pv 1)) ra_nil)))) (ra_cons (rx_fz (rx_call G_leaving_counts (hr.mono (by decide)) hgd (pb_leaving_counts_0 F_leaving_counts) tk rfl g_leaving_counts F_leaving_counts.kp (ra_cons (re_var (pv 0)) (ra_cons (re_var (pv 1)) ra_nil)))) ra_nil)))))) (rss_one (rs_asg (ps_set (i := 6) sc__law_is_face_right.nd rfl (Or.inl rfl) (rx_add (re_var (pv 6)) (rx_fz (rx_lst (ra_cons (rx_fz (rx_call G_low_corners (hr.mono (by decide)) hgd (pb_low_corners_0 F_low_corners) tk rfl g_low_corners F_low_corners.kp (ra_cons (re_var (pv 0)) (ra_cons (re_var (pv 1)) ra_nil)))) (ra_cons (rx_fz (rx_call G_high_corners (hr.mono (by decide)) hgd (pb_high_corners_0 F_high_corners) tk rfl g_high_corners F_high_corners.kp (ra_cons (re_var (pv 0)) (ra_cons (re_var (pv 1)) ra_nil)))) ra_nil))))))))) (rss_cons (rs_asg (ps_set (i := 6) sc__law_is_face_right.nd rfl (Or.inl rfl) (rx_lst (ra_cons (rx_fz (rx_callK0 G_low_of (hr.mono (by decide)) hgd (pb_low_of_1 F_low_of) tk rfl g_low_of F_low_of.kp (rk_cons (re_var (pv 0)) (rk_cons (re_var (pv 1)) rk_nil)))) (ra_cons (rx_fz (rx_callK0 G_high_of (hr.mono (by decide)) hgd (pb_high_of_1 F_high_of) tk rfl g_high_of F_high_of.kp (rk_cons (re_var (pv 1)) (rk_cons (re_var (pv 0)) rk_nil)))) (ra_cons (rx_fz (rx_callK0 G_leaving_counts (hr.mono (by decide)) hgd (pb_leaving_counts_1 F_leaving_counts) tk rfl g_leaving_counts F_leaving_counts.kp (rk_cons (re_var (pv 0)) (rk_cons (re_var (pv 1)) rk_nil)))) ra_nil)))))) (rss_one (rs_asg (ps_set (i := 6) sc__law_is_face_right.nd rfl (Or.inl rfl) (rx_add (re_var (pv 6)) (rx_fz (rx_lst (ra_cons (rx_fz (rx_callK0 G_low_corners (hr.mono (by decide)) hgd (pb_low_corners_1 F_low_corners) tk rfl g_low_corners F_low_corners.kp (rk_cons (re_var (pv 0)) (rk_cons (re_var (pv 1)) rk_nil)))) (ra_cons (rx_fz (rx_callK0 G_high_corners (hr.mono (by decide)) hgd (pb_high_corners_1 F_high_corners) tk rfl g_high_corners F_high_corners.kp (rk_cons (re_var (pv 1)) (rk_cons (re_var (pv 0)) rk_nil)))) ra_nil)))))))))) (rss_one (rs_ret (rx_call G__law_same (hr.mono (by decide)) hgd (pb__law_same_0 F__law_same) tk rfl g__law_same F__law_same.kp (ra_cons (re_var (pv 6)) (ra_cons (re_var (pv 5)) ra_nil))))))))
theorem sc__law_is_named_right : FnScope ["cube", "face", "turn", "due", "told"] ["cube", "face", "turn"] (defScope (top 39)) := ⟨rfl, rfl, rfl, by decide +kernel, rfl, by decide +kernel, by decide +kernel⟩
theorem ok__law_is_named_right (c : Facts top tab bl gi K mg) : DfOk P w K mg base 4 "_law_is_named_right" (top 39) ["cube", "face", "turn"] β γ xr 3 f__law_is_named_right := by
  obtain ⟨f, fd, g0, Fd⟩ := c.dAt 32 (p := ("_law_is_named_right", 39)) rfl
  obtain ⟨f__law_lows', fd__law_lows, g__law_lows, F__law_lows, G__law_lows⟩ := ok__law_lows (P := P) (w := w) (base := base) (β := β) (γ := γ) (xr := xr) c
  obtain ⟨f__law_highs', fd__law_highs, g__law_highs, F__law_highs, G__law_highs⟩ := ok__law_highs (P := P) (w := w) (base := base) (β := β) (γ := γ) (xr := xr) c
  obtain ⟨f_corner_named', fd_corner_named, g_corner_named, F_corner_named, G_corner_named⟩ := ok_corner_named (P := P) (w := w) (base := base) (β := β) (γ := γ) (xr := xr) c
  obtain ⟨f__law_same', fd__law_same, g__law_same, F__law_same, G__law_same⟩ := ok__law_same (P := P) (w := w) (base := base) (β := β) (γ := γ) (xr := xr) c
  refine ⟨f, fd, g0, Fd, FnG.ofM Fd sc__law_is_named_right rfl fun cdv A outer s H F0 E hr hgd tk hp => ?_⟩
  have hu := hr.units
  have hu2 : _ + 200 < cLine := L2Room_units200 hr
  exact (rss_cons (rs_asg (ps_set (i := 3) sc__law_is_named_right.nd rfl (Or.inl rfl) (rx_lst (ra_cons (re_ix (rx_fz (rx_call G__law_lows (hr.mono (by decide)) hgd (pb__law_lows_0 F__law_lows) tk rfl g__law_lows F__law_lows.kp (ra_cons (re_var (pv 0)) (ra_cons (re_var (pv 1)) ra_nil)))) re_int) (ra_cons (re_ix (rx_fz (rx_call G__law_highs (hr.mono (by decide)) hgd (pb__law_highs_0 F__law_highs) tk rfl g__law_highs F__law_highs.kp (ra_cons (re_var (pv 0)) (ra_cons (re_var (pv 1)) ra_nil)))) re_int) ra_nil))))) (rss_cons (rs_if (rt_eq hu (re_var (pv 2)) re_int) (rss_one (rs_asg (ps_set (i := 4) sc__law_is_named_right.nd rfl (Or.inl rfl) (rx_lst (ra_cons (rx_fz (rx_call G_corner_named (hr.mono (by decide)) hgd (pb_corner_named_0 F_corner_named) tk rfl g_corner_named F_corner_named.kp (ra_cons (re_var (pv 0)) (ra_cons (re_var (pv 1)) (ra_cons re_int ra_nil))))) (ra_cons (rx_fz (rx_call G_corner_named (hr.mono (by decide)) hgd (pb_corner_named_0 F_corner_named) tk rfl g_corner_named F_corner_named.kp (ra_cons (re_var (pv 0)) (ra_cons (re_var (pv 1)) (ra_cons (re_ixN (pv 1) re_int) ra_nil))))) ra_nil)))))) (rss_one (rs_asg (ps_set (i := 4) sc__law_is_named_right.nd rfl (Or.inl rfl) (rx_lst (ra_cons (rx_fz (rx_callK0 G_corner_named (hr.mono (by decide)) hgd (pb_corner_named_1 F_corner_named) tk rfl g_corner_named F_corner_named.kp (rk_cons (re_var (pv 0)) (rk_cons (re_var (pv 1)) (rk_cons re_int rk_nil))))) (ra_cons (rx_fz (rx_callK0 G_corner_named (hr.mono (by decide)) hgd (pb_corner_named_2 F_corner_named) tk rfl g_corner_named F_corner_named.kp (rk_cons (re_var (pv 1)) (rk_cons (re_ixN (pv 1) re_int) (rk_cons (re_var (pv 0)) rk_nil))))) ra_nil))))))) (rss_one (rs_ret (rx_call G__law_same (hr.mono (by decide)) hgd (pb__law_same_0 F__law_same) tk rfl g__law_same F__law_same.kp (ra_cons (re_var (pv 4)) (ra_cons (re_var (pv 3)) ra_nil)))))))
theorem sc__law_is_within_right : FnScope ["bag", "cube", "n", "full", "free", "outer", "low", "high", "k", "corner", "inner", "turn", "some", "ends"] ["bag", "cube", "n"] (defScope (top 40)) := ⟨rfl, rfl, rfl, by decide +kernel, rfl, by decide +kernel, by decide +kernel⟩
theorem ok__law_is_within_right (c : Facts top tab bl gi K mg) : DfOk P w K mg base 5 "_law_is_within_right" (top 40) ["bag", "cube", "n"] β γ xr 3 f__law_is_within_right := by
  obtain ⟨f, fd, g0, Fd⟩ := c.dAt 33 (p := ("_law_is_within_right", 40)) rfl
  obtain ⟨f__law_draw', fd__law_draw, g__law_draw, F__law_draw, G__law_draw⟩ := ok__law_draw (P := P) (w := w) (base := base) (β := β) (γ := γ) (xr := xr) c
  obtain ⟨f__law_lows', fd__law_lows, g__law_lows, F__law_lows, G__law_lows⟩ := ok__law_lows (P := P) (w := w) (base := base) (β := β) (γ := γ) (xr := xr) c
  obtain ⟨f__law_highs', fd__law_highs, g__law_highs, F__law_highs, G__law_highs⟩ := ok__law_highs (P := P) (w := w) (base := base) (β := β) (γ := γ) (xr := xr) c
  obtain ⟨f__law_same', fd__law_same, g__law_same, F__law_same, G__law_same⟩ := ok__law_same (P := P) (w := w) (base := base) (β := β) (γ := γ) (xr := xr) c
  obtain ⟨f_low_of', fd_low_of, g_low_of, F_low_of, G_low_of⟩ := ok_low_of (P := P) (w := w) (base := base) (β := β) (γ := γ) (xr := xr) c
  obtain ⟨f_high_of', fd_high_of, g_high_of, F_high_of, G_high_of⟩ := ok_high_of (P := P) (w := w) (base := base) (β := β) (γ := γ) (xr := xr) c
  obtain ⟨f__law_pick', fd__law_pick, g__law_pick, F__law_pick, G__law_pick⟩ := ok__law_pick (P := P) (w := w) (base := base) (β := β) (γ := γ) (xr := xr) c
  obtain ⟨f__law_corners', fd__law_corners, g__law_corners, F__law_corners, G__law_corners⟩ := ok__law_corners (P := P) (w := w) (base := base) (β := β) (γ := γ) (xr := xr) c
  have g_enumerate := c.bAt 3 (x := "enumerate") rfl
  have g_range := c.bAt 7 (x := "range") rfl
  refine ⟨f, fd, g0, Fd, FnG.ofM Fd sc__law_is_within_right rfl fun cdv A outer s H F0 E hr hgd tk hp => ?_⟩
  have hu := hr.units
  have hu2 : _ + 200 < cLine := L2Room_units200 hr
  exact (rss_cons (rs_asg (ps_set (i := 3) sc__law_is_within_right.nd rfl (Or.inl rfl) (re_fr (re_sub (re_shl re_int (re_var (pv 2))) re_int)))) (rss_cons (rs_asg (ps_set (i := 4) sc__law_is_within_right.nd rfl (Or.inl rfl) (rx_if (rt_eq hu (rx_fz (rx_call G__law_draw (hr.mono (by decide)) hgd (pb__law_draw_0 F__law_draw) tk rfl g__law_draw F__law_draw.kp (ra_cons (re_var (pv 0)) (ra_cons re_int ra_nil)))) re_int) (re_fr (re_var (pv 3))) (rx_call G__law_draw (hr.mono (by decide)) hgd (pb__law_draw_0 F__law_draw) tk rfl g__law_draw F__law_draw.kp (ra_cons (re_var (pv 0)) (ra_cons (re_shl re_int (re_var (pv 2))) ra_nil)))))) (rss_cons (rs_asg (ps_set (i := 5) sc__law_is_within_right.nd rfl (Or.inl rfl) (re_fr (re_tup (ra_cons (re_var (pv 4)) (ra_cons (re_andB (rx_fz (rx_call G__law_draw (hr.mono (by decide)) hgd (pb__law_draw_0 F__law_draw) tk rfl g__law_draw F__law_draw.kp (ra_cons (re_var (pv 0)) (ra_cons (re_shl re_int (re_var (pv 2))) ra_nil)))) (re_sub (re_var (pv 3)) (re_var (pv 4)))) ra_nil)))))) (rss_cons (rs_par2 (cons_len (cons_len nil_len)) (ps_par (i := 6) (j := 7) rfl sc__law_is_within_right.nd rfl rfl (by decide) rfl rfl (rr_cons (re_fr (re_ix (rx_fz (rx_call G__law_lows (hr.mono (by decide)) hgd (pb__law_lows_0 F__law_lows) tk rfl g__law_lows F__law_lows.kp (ra_cons (re_var (pv 1)) (ra_cons (re_var (pv 5)) ra_nil)))) re_int)) (rr_cons (re_fr (re_ix (rx_fz (rx_call G__law_highs (hr.mono (by decide)) hgd (pb__law_highs_0 F__law_highs) tk rfl g__law_highs F__law_highs.kp (ra_cons (re_var (pv 1)) (ra_cons (re_var (pv 5)) ra_nil)))) re_int)) rr_nil)) (by kernel_rfl))) (rss_cons (rs_if (rt_not (rt_tru (re_pk (rx_fz (rx_call G__law_same (hr.mono (by decide)) hgd (pb__law_same_0 F__law_same) tk rfl g__law_same F__law_same.kp (ra_cons (rx_fz (rx_lst (ra_cons (rx_fz (rx_call G_low_of (hr.mono (by decide)) hgd (pb_low_of_0 F_low_of) tk rfl g_low_of F_low_of.kp (ra_cons (re_var (pv 1)) (ra_cons (re_var (pv 5)) ra_nil)))) (ra_cons (rx_fz (rx_call G_high_of (hr.mono (by decide)) hgd (pb_high_of_0 F_high_of) tk rfl g_high_of F_high_of.kp (ra_cons (re_var (pv 1)) (ra_cons (re_var (pv 5)) ra_nil)))) ra_nil)))) (ra_cons (rx_fz (rx_lst (ra_cons (re_var (pv 6)) (ra_cons (re_var (pv 7)) ra_nil)))) ra_nil))))))) (rss_one (rs_ret (re_fr re_bl))) rss_nil) (rss_cons (rs_for hp rfl (ri_enum2 (ra_cons (rx_fz (rx_lst (ra_cons (re_var (pv 6)) (ra_cons (re_var (pv 7)) (ra_cons (rx_fz (rx_call G__law_pick (hr.mono (by decide)) hgd (pb__law_pick_0 F__law_pick) tk rfl g__law_pick F__law_pick.kp (ra_cons (re_var (pv 0)) (ra_cons (rx_fz (rx_call G__law_corners (hr.mono (by decide)) hgd (pb__law_corners_0 F__law_corners) tk rfl g__law_corners F__law_corners.kp (ra_cons (re_var (pv 5)) ra_nil))) ra_nil)))) ra_nil))))) ra_nil) rfl g_enumerate) (rg_tup rfl (rgs_cons (rg_name (vs := [8, 9]) (pg_name sc__law_is_within_right.nd (i := 8) rfl (by first | exact Or.inl rfl | exact Or.inr rfl))) (rgs_cons (rg_name (vs := [8, 9]) (pg_name sc__law_is_within_right.nd (i := 9) rfl (by first | exact Or.inl rfl | exact Or.inr rfl))) rgs_nil))) (rss_cons (rs_asg (ps_set (i := 10) sc__law_is_within_right.nd rfl (Or.inl rfl) (re_fr (re_var (pv 5))))) (rss_one (rs_for hp rfl (ri_rg1 (ra_cons re_int ra_nil) rfl g_range) (rg_name (vs := [11]) (pg_name sc__law_is_within_right.nd (i := 11) rfl (by first | exact Or.inl rfl | exact Or.inr rfl))) (rss_cons (rs_asg (ps_set (i := 12) sc__law_is_within_right.nd rfl (Or.inl rfl) (re_fr (re_andB (re_ixN (pv 10) re_int) (re_orB (rx_fz (rx_call G__law_draw (hr.mono (by decide)) hgd (pb__law_draw_0 F__law_draw) tk rfl g__law_draw F__law_draw.kp (ra_cons (re_var (pv 0)) (ra_cons (re_shl re_int (re_var (pv 2))) ra_nil)))) (rx_fz (rx_call G__law_draw (hr.mono (by decide)) hgd (pb__law_draw_0 F__law_draw) tk rfl g__law_draw F__law_draw.kp (ra_cons (re_var (pv 0)) (ra_cons (re_shl re_int (re_var (pv 2))) ra_nil))))))))) (rss_cons (rs_asg (ps_set (i := 10) sc__law_is_within_right.nd rfl (Or.inl rfl) (re_fr (re_tup (ra_cons (re_var (pv 12)) (ra_cons (re_andB (re_var (pv 9)) (re_sub (re_var (pv 3)) (re_var (pv 12)))) ra_nil)))))) (rss_cons (rs_asg (ps_set (i := 13) sc__law_is_within_right.nd rfl (Or.inl rfl) (rx_lst (ra_cons (rx_fz (rx_call G_low_of (hr.mono (by decide)) hgd (pb_low_of_0 F_low_of) tk rfl g_low_of F_low_of.kp (ra_cons (re_var (pv 1)) (ra_cons (re_var (pv 10)) ra_nil)))) (ra_cons (rx_fz (rx_call G_high_of (hr.mono (by decide)) hgd (pb_high_of_0 F_high_of) tk rfl g_high_of F_high_of.kp (ra_cons (re_var (pv 1)) (ra_cons (re_var (pv 10)) ra_nil)))) ra_nil))))) (rss_cons (rs_if (RW.pt (rw_and (rt_lt (re_var (pv 8)) re_int) (rw_and1 (rt_not (rt_tru (re_pk (rx_fz (rx_call G__law_same (hr.mono (by decide)) hgd (pb__law_same_0 F__law_same) tk rfl g__law_same F__law_same.kp (ra_cons (re_ixN (pv 13) (re_var (pv 8))) (ra_cons (re_var (pv 9)) ra_nil)))))))))) (rss_one (rs_ret (re_fr re_bl))) rss_nil) (rss_one (rs_if (rt_not (rt_tru (re_pk (rx_fz (rx_call G__law_same (hr.mono (by decide)) hgd (pb__law_same_0 F__law_same) tk rfl g__law_same F__law_same.kp (ra_cons (re_var (pv 13)) (ra_cons (rx_fz (rx_lst (ra_cons (re_ix (rx_fz (rx_call G__law_lows (hr.mono (by decide)) hgd (pb__law_lows_0 F__law_lows) tk rfl g__law_lows F__law_lows.kp (ra_cons (re_var (pv 1)) (ra_cons (re_var (pv 10)) ra_nil)))) re_int) (ra_cons (re_ix (rx_fz (rx_call G__law_highs (hr.mono (by decide)) hgd (pb__law_highs_0 F__law_highs) tk rfl g__law_highs F__law_highs.kp (ra_cons (re_var (pv 1)) (ra_cons (re_var (pv 10)) ra_nil)))) re_int) ra_nil)))) ra_nil))))))) (rss_one (rs_ret (re_fr re_bl))) rss_nil)))))))))) (rss_one (rs_ret (re_fr re_bl)))))))))
theorem sc__law_is_had_right : FnScope ["cube", "n", "turn", "some", "due", "told", "faces", "i"] ["cube", "n", "turn"] (defScope (top 41)) := ⟨rfl, rfl, rfl, by decide +kernel, rfl, by decide +kernel, by decide +kernel⟩
theorem ok__law_is_had_right (c : Facts top tab bl gi K mg) : DfOk P w K mg base 3 "_law_is_had_right" (top 41) ["cube", "n", "turn"] β γ xr 3 f__law_is_had_right := by
  obtain ⟨f, fd, g0, Fd⟩ := c.dAt 34 (p := ("_law_is_had_right", 41)) rfl
  obtain ⟨f__law_many', fd__law_many, g__law_many, F__law_many, G__law_many⟩ := ok__law_many (P := P) (w := w) (base := base) (β := β) (γ := γ) (xr := xr) c
  obtain ⟨f_lows_had', fd_lows_had, g_lows_had, F_lows_had, G_lows_had⟩ := ok_lows_had (P := P) (w := w) (base := base) (β := β) (γ := γ) (xr := xr) c
  obtain ⟨f__law_same', fd__law_same, g__law_same, F__law_same, G__law_same⟩ := ok__law_same (P := P) (w := w) (base := base) (β := β) (γ := γ) (xr := xr) c
  have g_tuple := c.bAt 13 (x := "tuple") rfl
  have g_range := c.bAt 7 (x := "range") rfl
  have g_sum := c.bAt 11 (x := "sum") rfl
  refine ⟨f, fd, g0, Fd, FnG.ofM Fd sc__law_is_had_right rfl fun cdv A outer s H F0 E hr hgd tk hp => ?_⟩
  have hu := hr.units
  have hu2 : _ + 200 < cLine := L2Room_units200 hr
  exact (rss_cons (rs_asg (ps_set (i := 4) sc__law_is_had_right.nd rfl (Or.inl rfl) (re_fr (re_tuple (re_pk (rx_fz (rx_lc rfl sc__law_is_had_right.nd (ri_seq (re_var (pv 0))) (own := [("some", 3)]) (blkOk_by (by kernel_rfl)) (fun _ _ _ _ _ => (rg_name (vs := [3]) (pg_name sc__law_is_had_right.nd (i := 3) rfl (by first | exact Or.inl rfl | exact Or.inr rfl)))) (fun _ _ _ _ _ => rts_nil) (fun _ _ _ _ _ => (re_shl re_int (re_sub (re_var (pv 1)) (rx_fz (rx_call G__law_many (hr.mono (by decide)) hgd (pb__law_many_0 F__law_many) takesF rfl g__law_many F__law_many.kp (ra_cons (re_var (pv 3)) ra_nil))))))))) rfl g_tuple)))) (rss_cons (rs_asg (ps_set (i := 5) sc__law_is_had_right.nd rfl (Or.inl rfl) (rx_if (rt_eq hu (re_var (pv 2)) re_int) (rx_call G_lows_had (hr.mono (by decide)) hgd (pb_lows_had_0 F_lows_had) tk rfl g_lows_had F_lows_had.kp (ra_cons (re_var (pv 0)) ra_nil)) (rx_callK0 G_lows_had (hr.mono (by decide)) hgd (pb_lows_had_1 F_lows_had) tk rfl g_lows_had F_lows_had.kp (rk_cons (re_var (pv 0)) rk_nil))))) (rss_cons (rs_asg (ps_set (i := 6) sc__law_is_had_right.nd rfl (Or.inl rfl) (re_fr re_int))) (rss_cons (rs_for hp rfl (ri_rg1 (ra_cons (re_var (pv 1)) ra_nil) rfl g_range) (rg_name (vs := [7]) (pg_name sc__law_is_had_right.nd (i := 7) rfl (by first | exact Or.inl rfl | exact Or.inr rfl))) (rss_one (rs_asg (ps_set (i := 6) sc__law_is_had_right.nd rfl (Or.inl rfl) (rx_mul (re_var (pv 6)) re_int))))) (rss_one (rs_ret (re_fr (re_and (rx_fz (rx_call G__law_same (hr.mono (by decide)) hgd (pb__law_same_0 F__law_same) tk rfl g__law_same F__law_same.kp (ra_cons (re_var (pv 5)) (ra_cons (re_var (pv 4)) ra_nil)))) (re_one (re_eq hu (re_sum2 rfl (rp_var (pv 5)) rfl g_sum) (re_var (pv 6))))))))))))
theorem sc_law : FnScope ["script", "bag", "n", "cubes", "is_near", "arrows", "faces", "k", "face", "cube", "told", "turn"] ["script"] (defScope (top 42)) := ⟨rfl, rfl, rfl, by decide +kernel, rfl, by decide +kernel, by decide +kernel⟩
theorem ok_law (c : Facts top tab bl gi K mg) (hB : ∀ ns : List Int, ns.length ≤ 63 → ∃ (cs : List Int) (m : Int) (b : Bg), cs.length ≤ 63 ∧ f__law_bag [bagD] ⟨ns, 0, 0, true⟩ = .ok (true, .list [.list (cs.map PyData.int), .int 0, .int m]) b)
    (hL : ∀ (cs : List Int) (m : Int), cs.length ≤ 63 → ∃ e b, b_law (lawEn 12) ⟨cs, 0, m, false⟩ = .ok (.rt (false, .bool true)) e b) : ∃ f fd, mg "law" = some (.ref f) ∧ (∀ (s : Shared) (u : Value), BindsTo s fd ⟨[u], []⟩ [("script", u)]) ∧ ∀ base : Heap, FnG P w K mg base 12 f fd ["script"] spLaw := by
  obtain ⟨f, fd, g0, Fd⟩ := c.dAt 35 (p := ("law", 42)) rfl
  have hb1 : PB fd ["script"] [] 1 [0] := PB.mk Fd fun _ _ _ _ _ _ us ws h1 h2 => match us, ws, h1, h2 with | [_], [], _, _ => rfl
  refine ⟨f, fd, g0, fun s u => hb1 s [u] [] rfl rfl, fun base => FnG.law (N := ["script", "bag", "n", "cubes", "is_near", "arrows", "faces", "k", "face", "cube", "told", "turn"]) (mB := f__law_bag) (mL := b_law) Fd sc_law (by decide) (fun cdv A outer s H E hr hgd tk hp => ?_) hB hL⟩
  have hu := hr.units
  have hu2 : _ + 200 < cLine := L2Room_units200 hr
  have g_enumerate := c.bAt 3 (x := "enumerate") rfl
  have g_range := c.bAt 7 (x := "range") rfl
  have g_len := c.bAt 5 (x := "len") rfl
  have g_all := c.bAt 2 (x := "all") rfl
  constructor
  · intro H0 F0 β γ
    obtain ⟨f__law_bag', fd__law_bag, g__law_bag, F__law_bag, G__law_bag⟩ := ok__law_bag (P := P) (w := w) (base := base) (β := β) (γ := γ) (xr := noX) c
    exact (rs_asg (ps_set (i := 1) sc_law.nd rfl (Or.inl rfl) (rx_call G__law_bag (hr.mono (by decide)) hgd (pb__law_bag_0 F__law_bag) tk rfl g__law_bag F__law_bag.kp (ra_cons (re_var (pv 0)) ra_nil))))
  · intro H0 F0 β γ
    obtain ⟨f__law_size', fd__law_size, g__law_size, F__law_size, G__law_size⟩ := ok__law_size (P := P) (w := w) (base := base) (β := β) (γ := γ) (xr := noX) c
    obtain ⟨f__law_good', fd__law_good, g__law_good, F__law_good, G__law_good⟩ := ok__law_good (P := P) (w := w) (base := base) (β := β) (γ := γ) (xr := noX) c
    obtain ⟨f__law_draw', fd__law_draw, g__law_draw, F__law_draw, G__law_draw⟩ := ok__law_draw (P := P) (w := w) (base := base) (β := β) (γ := γ) (xr := noX) c
    obtain ⟨f__law_class_turned', fd__law_class_turned, g__law_class_turned, F__law_class_turned, G__law_class_turned⟩ := ok__law_class_turned (P := P) (w := w) (base := base) (β := β) (γ := γ) (xr := noX) c
    obtain ⟨f__law_arrows', fd__law_arrows, g__law_arrows, F__law_arrows, G__law_arrows⟩ := ok__law_arrows (P := P) (w := w) (base := base) (β := β) (γ := γ) (xr := noX) c
    obtain ⟨f__law_faces', fd__law_faces, g__law_faces, F__law_faces, G__law_faces⟩ := ok__law_faces (P := P) (w := w) (base := base) (β := β) (γ := γ) (xr := noX) c
    obtain ⟨f__law_is_face_right', fd__law_is_face_right, g__law_is_face_right, F__law_is_face_right, G__law_is_face_right⟩ := ok__law_is_face_right (P := P) (w := w) (base := base) (β := β) (γ := γ) (xr := noX) c
    obtain ⟨f__law_is_named_right', fd__law_is_named_right, g__law_is_named_right, F__law_is_named_right, G__law_is_named_right⟩ := ok__law_is_named_right (P := P) (w := w) (base := base) (β := β) (γ := γ) (xr := noX) c
    obtain ⟨f_low_corners', fd_low_corners, g_low_corners, F_low_corners, G_low_corners⟩ := ok_low_corners (P := P) (w := w) (base := base) (β := β) (γ := γ) (xr := noX) c
    obtain ⟨f_high_corners', fd_high_corners, g_high_corners, F_high_corners, G_high_corners⟩ := ok_high_corners (P := P) (w := w) (base := base) (β := β) (γ := γ) (xr := noX) c
    obtain ⟨f__law_same', fd__law_same, g__law_same, F__law_same, G__law_same⟩ := ok__law_same (P := P) (w := w) (base := base) (β := β) (γ := γ) (xr := noX) c
    obtain ⟨f__law_lows', fd__law_lows, g__law_lows, F__law_lows, G__law_lows⟩ := ok__law_lows (P := P) (w := w) (base := base) (β := β) (γ := γ) (xr := noX) c
    obtain ⟨f__law_highs', fd__law_highs, g__law_highs, F__law_highs, G__law_highs⟩ := ok__law_highs (P := P) (w := w) (base := base) (β := β) (γ := γ) (xr := noX) c
    obtain ⟨f__law_is_within_right', fd__law_is_within_right, g__law_is_within_right, F__law_is_within_right, G__law_is_within_right⟩ := ok__law_is_within_right (P := P) (w := w) (base := base) (β := β) (γ := γ) (xr := noX) c
    obtain ⟨f__law_is_had_right', fd__law_is_had_right, g__law_is_had_right, F__law_is_had_right, G__law_is_had_right⟩ := ok__law_is_had_right (P := P) (w := w) (base := base) (β := β) (γ := γ) (xr := noX) c
    obtain ⟨f__law_bag', fd__law_bag, g__law_bag, F__law_bag, G__law_bag⟩ := ok__law_bag (P := P) (w := w) (base := base) (β := β) (γ := γ) (xr := noX) c
    exact (rss_cons (rs_asg (ps_set (i := 2) sc_law.nd rfl (Or.inl rfl) (rx_call G__law_size (hr.mono (by decide)) hgd (pb__law_size_0 F__law_size) tk rfl g__law_size F__law_size.kp (ra_cons (re_var (pv 1)) ra_nil)))) (rss_cons (rs_asg (ps_set (i := 3) sc_law.nd rfl (Or.inr rfl) (rx_lst (ra_cons (rx_fz (rx_call G__law_good (hr.mono (by decide)) hgd (pb__law_good_0 F__law_good) tk rfl g__law_good F__law_good.kp (ra_cons (re_var (pv 1)) (ra_cons (re_var (pv 2)) ra_nil)))) ra_nil)))) (rss_cons (rs_asg (ps_set (i := 4) sc_law.nd rfl (Or.inl rfl) (re_fr (re_or (re_gt (re_var (pv 2)) re_int) (re_one (re_and (re_gt (re_var (pv 2)) re_int) (re_one (re_eq hu (rx_fz (rx_call G__law_draw (hr.mono (by decide)) hgd (pb__law_draw_0 F__law_draw) tk rfl g__law_draw F__law_draw.kp (ra_cons (re_var (pv 1)) (ra_cons re_int ra_nil)))) re_int)))))))) (rss_cons (rs_drop (ps_expr (re_append (pe_bm PySem.F.plainAttrs_list PySem.F.slot_list_append PySem.F.type_list_append mt_append (pv 3) (ra_cons (rx_fz (rx_if (rt_tru (rp_var (pv 4))) (rx_call G__law_class_turned (hr.mono (by decide)) hgd (pb__law_class_turned_0 F__law_class_turned) tk rfl g__law_class_turned F__law_class_turned.kp (ra_cons (re_var (pv 1)) (ra_cons (re_ixN (pv 3) re_int) (ra_cons (re_var (pv 2)) ra_nil)))) (rx_call G__law_good (hr.mono (by decide)) hgd (pb__law_good_0 F__law_good) tk rfl g__law_good F__law_good.kp (ra_cons (re_var (pv 1)) (ra_cons (re_var (pv 2)) ra_nil))))) ra_nil))))) (rss_cons (rs_par2 (cons_len (cons_len nil_len)) (ps_par (i := 5) (j := 6) rfl sc_law.nd rfl rfl (by decide) rfl rfl (rr_cons (rx_call G__law_arrows (hr.mono (by decide)) hgd (pb__law_arrows_0 F__law_arrows) tk rfl g__law_arrows F__law_arrows.kp (ra_cons (re_var (pv 1)) (ra_cons (re_var (pv 2)) ra_nil))) (rr_cons (rx_call G__law_faces (hr.mono (by decide)) hgd (pb__law_faces_0 F__law_faces) tk rfl g__law_faces F__law_faces.kp (ra_cons (re_var (pv 1)) (ra_cons (re_var (pv 2)) ra_nil))) rr_nil)) (by kernel_rfl))) (rss_cons (rs_for hp rfl (ri_enum2 (ra_cons (re_var (pv 6)) ra_nil) rfl g_enumerate) (rg_tup rfl (rgs_cons (rg_name (vs := [7, 8]) (pg_name sc_law.nd (i := 7) rfl (by first | exact Or.inl rfl | exact Or.inr rfl))) (rgs_cons (rg_name (vs := [7, 8]) (pg_name sc_law.nd (i := 8) rfl (by first | exact Or.inl rfl | exact Or.inr rfl))) rgs_nil))) (rss_cons (rs_for hp rfl (ri_seq (re_var (pv 3))) (rg_name (vs := [9]) (pg_name sc_law.nd (i := 9) rfl (by first | exact Or.inl rfl | exact Or.inr rfl))) (rss_one (rs_if (RW.pt (rw_or (rt_not (rt_tru (re_pk (rx_fz (rx_call G__law_is_face_right (hr.mono (by decide)) hgd (pb__law_is_face_right_0 F__law_is_face_right) tk rfl g__law_is_face_right F__law_is_face_right.kp (ra_cons (re_var (pv 9)) (ra_cons (re_var (pv 8)) (ra_cons (re_andB (re_var (pv 7)) re_int) ra_nil)))))))) (rw_or1 (rt_not (rt_tru (re_pk (rx_fz (rx_call G__law_is_named_right (hr.mono (by decide)) hgd (pb__law_is_named_right_0 F__law_is_named_right) tk rfl g__law_is_named_right F__law_is_named_right.kp (ra_cons (re_var (pv 9)) (ra_cons (re_var (pv 8)) (ra_cons (re_andB (re_var (pv 7)) re_int) ra_nil))))))))))) (rss_one (rs_ret (re_fr re_bl))) rss_nil))) (rss_cons (rs_asg (ps_set (i := 10) sc_law.nd rfl (Or.inl rfl) (rx_lst (ra_cons (rx_fz (rx_call G_low_corners (hr.mono (by decide)) hgd (pb_low_corners_0 F_low_corners) tk rfl g_low_corners F_low_corners.kp (ra_cons (re_var (pv 5)) (ra_cons (re_var (pv 8)) ra_nil)))) (ra_cons (rx_fz (rx_call G_high_corners (hr.mono (by decide)) hgd (pb_high_corners_0 F_high_corners) tk rfl g_high_corners F_high_corners.kp (ra_cons (re_var (pv 5)) (ra_cons (re_var (pv 8)) ra_nil)))) ra_nil))))) (rss_one (rs_if (rt_not (rt_tru (re_pk (rx_fz (rx_call G__law_same (hr.mono (by decide)) hgd (pb__law_same_0 F__law_same) tk rfl g__law_same F__law_same.kp (ra_cons (re_var (pv 10)) (ra_cons (rx_fz (rx_lst (ra_cons (rx_fz (rx_call G__law_lows (hr.mono (by decide)) hgd (pb__law_lows_0 F__law_lows) tk rfl g__law_lows F__law_lows.kp (ra_cons (re_var (pv 5)) (ra_cons (re_var (pv 8)) ra_nil)))) (ra_cons (rx_fz (rx_call G__law_highs (hr.mono (by decide)) hgd (pb__law_highs_0 F__law_highs) tk rfl g__law_highs F__law_highs.kp (ra_cons (re_var (pv 5)) (ra_cons (re_var (pv 8)) ra_nil)))) ra_nil)))) ra_nil))))))) (rss_one (rs_ret (re_fr re_bl))) rss_nil))))) (rss_cons (rs_for hp rfl (ri_rg1 (ra_cons re_int ra_nil) rfl g_range) (rg_name (vs := [11]) (pg_name sc_law.nd (i := 11) rfl (by first | exact Or.inl rfl | exact Or.inr rfl))) (rss_one (rs_if (rt_not (rt_tru (re_pk (rx_fz (rx_call G__law_is_within_right (hr.mono (by decide)) hgd (pb__law_is_within_right_0 F__law_is_within_right) tk rfl g__law_is_within_right F__law_is_within_right.kp (ra_cons (re_var (pv 1)) (ra_cons (re_ixN (pv 3) (re_andB (re_var (pv 11)) re_int)) (ra_cons (re_var (pv 2)) ra_nil)))))))) (rss_one (rs_ret (re_fr re_bl))) rss_nil))) (rss_cons (rs_for hp rfl (ri_enum2 (ra_cons (rx_fz (rx_if (rt_lt (re_var (pv 2)) re_int) (re_fr (re_var (pv 3))) (rx_sl (re_var (pv 3)) ro_none (ro_some re_int)))) ra_nil) rfl g_enumerate) (rg_tup rfl (rgs_cons (rg_name (vs := [7, 9]) (pg_name sc_law.nd (i := 7) rfl (by first | exact Or.inl rfl | exact Or.inr rfl))) (rgs_cons (rg_name (vs := [7, 9]) (pg_name sc_law.nd (i := 9) rfl (by first | exact Or.inl rfl | exact Or.inr rfl))) rgs_nil))) (rss_one (rs_if (RW.pt (rw_or (rt_not (rt_tru (re_pk (rx_fz (rx_call G__law_is_had_right (hr.mono (by decide)) hgd (pb__law_is_had_right_0 F__law_is_had_right) tk rfl g__law_is_had_right F__law_is_had_right.kp (ra_cons (re_var (pv 9)) (ra_cons (re_var (pv 2)) (ra_cons (re_var (pv 7)) ra_nil)))))))) (rw_or1 (RW.pt (rw_and (rt_lt (re_var (pv 2)) re_int) (rw_and1 (rt_not (rt_tru (re_pk (rx_fz (rx_call G__law_is_had_right (hr.mono (by decide)) hgd (pb__law_is_had_right_0 F__law_is_had_right) tk rfl g__law_is_had_right F__law_is_had_right.kp (ra_cons (re_var (pv 9)) (ra_cons (re_var (pv 2)) (ra_cons (re_sub re_int (re_var (pv 7))) ra_nil)))))))))))))) (rss_one (rs_ret (re_fr re_bl))) rss_nil))) (rss_one (rs_ret (re_fr (re_all rfl (re_pk (rx_fz (rx_lc rfl sc_law.nd (ri_seq (rx_fz (rx_lst (ra_cons (re_ixN (pv 6) re_int) (ra_cons (re_ixN (pv 6) (re_sub (re_len (rp_var (pv 6)) rfl g_len) re_int)) ra_nil))))) (own := [("face", 8)]) (blkOk_by (by kernel_rfl)) (fun _ _ _ _ _ => (rg_name (vs := [8]) (pg_name sc_law.nd (i := 8) rfl (by first | exact Or.inl rfl | exact Or.inr rfl)))) (fun _ _ _ _ _ => rts_nil) (fun _ _ _ _ _ => (rx_fz (rx_call G__law_is_face_right (hr.mono (by decide)) hgd (pb__law_is_face_right_0 F__law_is_face_right) takesF rfl g__law_is_face_right F__law_is_face_right.kp (ra_cons (re_ixN (pv 3) re_int) (ra_cons (re_var (pv 8)) (ra_cons re_int ra_nil))))))))) rfl g_all))))))))))))
end
end Cw
namespace Cw
open PySem PySem.Spec PyProof.Rows L2 PL
def names0 : List Str := ["bits_number", "subsets_of", "face_corners", "ways_number", "low_corners", "high_corners", "CornerError", "Unfit", "corner_named", "leaving_counts", "low_of", "high_of", "lows_had", "_law_bag", "_law_draw", "_law_pick", "_law_same", "_law_size", "_law_order", "_law_ordered", "_law_moved", "_law_merged", "_law_tied", "_law_class_turned", "_law_joined", "_law_good", "_law_arrows", "_law_corners", "_law_many", "_law_lows"]
def names1 : List Str := ["_law_highs", "_law_binomials", "_law_faces", "_law_is_face_right", "_law_is_named_right", "_law_is_within_right", "_law_is_had_right"]
abbrev Rw : PySem.W.OpenRow := PySem.W.OpenLaw.row PySem.Challenge.rw_onelowcorner_k06_whole_counts_and_lows
abbrev hk : PySem.W.Hook := He.hookD 4 (faOf tab bl gi) (tab.map (mkDt top))
def ob (s : PySem.W.SharedT) : He.AlD := He.obsDG 4 (faOf tab bl gi) (tab.map (mkDt top)) (HandSHeadRun.getT s)
theorem ob_eq (s : PySem.W.SharedT) : ob s = hk.obs s.abs := He.obsDG_eq (HandSHeadRun.getT_eq s)
theorem run (w : World) : HandSHeadRun.RunEq Rw (PySem.W.view Rw.prog [42]) hk ob 3000 (names0 ++ names1) w := by
  intro os
  kernel_rfl
end Cw
open PySem PySem.W PySem.Calls PyProof.Rows
theorem PySem.Challenge.cw_onelowcorner_k06_whole_counts_and_lows_holds : PySem.Challenge.rw_onelowcorner_k06_whole_counts_and_lows.Holds := by
  w_on; o_law
  refine HandSHeadRun.head_any (r := Cw.Rw) (q := view Cw.Rw.prog [42]) (H := Cw.hk) (ob := Cw.ob) (M := 3000) (loose := Cw.names0 ++ Cw.names1) (d := HandSHeadRun.topDef Cw.Rw.prog 42) (kwd := []) Cw.ob_eq
    (by kernel_rfl) (fun s => by kernel_rfl) Cw.run (by kernel_rfl) (by kernel_rfl) (by kernel_rfl) (by rfl) (by first | assumption | decide +kernel) (by decide +kernel) ⟨rfl, rfl, rfl, rfl, rfl, by decide +kernel⟩ ?hw ?hc
  case hw => w_witness2
  case hc =>
    refine PL.walk_G (l := PySem.Challenge.rw_onelowcorner_k06_whole_counts_and_lows) (k := 12) (x := "script") rfl (by kernel_rfl) ⟨rfl, by decide, by decide⟩ fun w K mg fa c hmg => ?_
    have e : (HandSHeadRun.topDef Cw.Rw.prog 42).name = ("law" : PySem.Str) := by kernel_rfl
    rw [e] at hmg
    obtain ⟨f, fd, g0, hb, hF⟩ := Cw.ok_law (P := (PySem.Challenge.rw_onelowcorner_k06_whole_counts_and_lows).prog) (w := w) c Cw.hB Cw.hL
    have e2 := g0.symm.trans hmg
    cases e2
    exact ⟨fd, hb, hF⟩
